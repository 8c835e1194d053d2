import PyProof.Rows.All
import Wide.All
import OpenK.AllK
import Wide.FinOn
import KE.KStateDown
import HandS.ForMost
import HandS.WordsExc
import HandS.Defaults
import HandS.Head0
import HandS.Head1
import HandS.Head2
import HandS.HeadEnd
import HandS.HeadHook1
import HandS.HeadHook2
import HandS.Slots
import HandS.Wide
import HandS.TupAny
import HandS.IsInst
import HandS.Flow
import HandS.Lambda
import HandS.TryMany
import HandS.ExcOwn
import HandS.ExcField
import HandS.CallSlots
import KE.SortData
import KE.SortUse
import KE.KDictSum
import HandS.Conv
import HandS.TupLen
import HandS.SetKeys
import HandS.WordsDict
import HandS.Iter
import HandS.Zip
import HandS.Style
import HandS.CallLocal
import HandS.Sort
import KE.GoesEnum
import HandS.DictComp
import HandS.ListItems
import HandS.ExcInit
import KE.KExcSuper
import KE.KSuper
import KE.KExcInit
import HandS.HeadHook4
import HandS.HeadWalk
import PySem.Challenge.RW_staypairs_k76_errors_of_ties
set_option Elab.async false
set_option linter.all false
set_option maxRecDepth 100000
set_option maxHeartbeats 4000000
/-! Ip: an evaluator over values, told by the author of this text (AI); its soundness over the hand layer. -/
namespace Ip
open PySem PySem.Spec PyProof.Rows L2

/-- a value: tuples by value, what may change by a number -/
inductive Vl where
  | non | bl (b : Bool) | int (i : Int) | str (x : Str) | tup (xs : List Vl) | ref (i : Nat) | fn (f : Nat) | kt (xs : List Vl)
  deriving Inhabited

inductive Ob where
  | lst (xs : List Vl)
  | ro (xs : List Vl)
  | dK (kvs : List (Key × Vl))
  | dT (kvs : List (List Key × Vl))
  | sl (c : Nat) (vs : List (Option Vl))
  | rng (lo hi : Int)
  deriving Inhabited

abbrev AH := List Ob
abbrev Sg := List (Option Vl)

inductive Rs (α : Type) where
  | ok (a : α) (h : AH) | ex (c : Nat) (p : List Vl) (h : AH) | no
abbrev M (α : Type) := AH → Rs α
def ret {α : Type} (a : α) : M α := fun h => .ok a h
def stuck {α : Type} : M α := fun _ => .no
def M.bind {α β : Type} (m : M α) (f : α → M β) : M β := fun h => match m h with
  | .ok a h' => f a h'
  | .ex c p h' => .ex c p h'
  | .no => .no
instance : Monad M where
  pure := ret
  bind := M.bind
def raise {α : Type} (c : Nat) (p : List Vl) : M α := fun h => .ex c p h
def alloc (o : Ob) : M Vl := fun h => .ok (.ref h.length) (h ++ [o])
def rd (i : Nat) : M Ob := fun h => match h[i]? with
  | some o => .ok o h
  | none => .no
def wr (i : Nat) (o : Ob) : M Unit := fun h => .ok () (h.set i o)
def guardB {α : Type} (b : Bool) (m : M α) : M α := if b then m else stuck

/-! ### values: equality, truth, order -/
mutual
def eqb : Vl → Vl → Bool
  | .non, .non => true
  | .bl a, .bl b => a == b
  | .int a, .int b => a == b
  | .str a, .str b => decide (a = b)
  | .tup a, .tup b => eqbs a b
  | .ref a, .ref b => a == b
  | .fn a, .fn b => a == b
  | .kt a, .kt b => eqbs a b
  | _, _ => false
def eqbs : List Vl → List Vl → Bool
  | [], [] => true
  | a :: as, b :: bs => eqb a b && eqbs as bs
  | _, _ => false
end
mutual
theorem eqb_ok : ∀ a b : Vl, eqb a b = true → a = b
  | .non, b, h => by cases b <;> simp_all [eqb]
  | .bl _, b, h => by cases b <;> simp_all [eqb]
  | .int _, b, h => by cases b <;> simp_all [eqb]
  | .str _, b, h => by cases b <;> simp_all [eqb]
  | .tup xs, b, h => by
    cases b with
    | tup ys =>
      have := eqbs_ok xs ys (by simpa [eqb] using h)
      rw [this]
    | _ => simp [eqb] at h
  | .ref _, b, h => by cases b <;> simp_all [eqb]
  | .fn _, b, h => by cases b <;> simp_all [eqb]
  | .kt xs, b, h => by
    cases b with
    | kt ys =>
      have := eqbs_ok xs ys (by simpa [eqb] using h)
      rw [this]
    | _ => simp [eqb] at h
theorem eqbs_ok : ∀ a b : List Vl, eqbs a b = true → a = b
  | [], b, h => by cases b <;> simp_all [eqbs]
  | a :: as, b, h => by
    cases b with
    | nil => simp [eqbs] at h
    | cons b bs =>
      rw [eqbs, Bool.and_eq_true] at h
      rw [eqb_ok a b h.1, eqbs_ok as bs h.2]
end
mutual
theorem eqb_refl : ∀ a : Vl, eqb a a = true
  | .non => rfl
  | .bl _ => by simp [eqb]
  | .int _ => by simp [eqb]
  | .str _ => by simp [eqb]
  | .tup xs => by rw [eqb]; exact eqbs_refl xs
  | .ref _ => by simp [eqb]
  | .fn _ => by simp [eqb]
  | .kt xs => by rw [eqb]; exact eqbs_refl xs
theorem eqbs_refl : ∀ a : List Vl, eqbs a a = true
  | [] => rfl
  | a :: as => by rw [eqbs, eqb_refl a, eqbs_refl as]; rfl
end
end Ip

set_option Elab.async false
set_option linter.all false
set_option maxRecDepth 100000
set_option maxHeartbeats 4000000
namespace Ip
open PySem PySem.Spec PyProof.Rows L2

/-! ### values and what they stand for -/
structure Lw where
  P : Program
  w : World
  K : PySem.W.Frag
  mg : Str → Option Value
  base : Heap
  fa : Nat → Addr
  fd : Nat → FuncData
  ca : Nat → Addr
  tb : List (Addr × Str)
  xf : Nat → Str

section
variable (L : Lw) (ρ : List Addr) (H : Hp)
mutual
inductive Rep : Vl → V → Prop
  | non : Rep .non .non
  | bl (b : Bool) : Rep (.bl b) (.bl b)
  | int (i : Int) : Rep (.int i) (.int i)
  | str (x : Str) : Rep (.str x) (.str x)
  | tup {xs : List Vl} {vs : List V} {a : Addr} : H a = some (.tup vs) → Reps xs vs → Rep (.tup xs) (.ref a)
  | kt {xs : List Vl} {vs : List V} {a : Addr} : (∀ H' : Hp, SqT L.K H' a vs) → Reps xs vs → Rep (.kt xs) (.ref a)
  | ref {i : Nat} {a : Addr} : ρ[i]? = some a → Rep (.ref i) (.ref a)
  | fn (f : Nat) : Rep (.fn f) (.ref (L.fa f))
inductive Reps : List Vl → List V → Prop
  | nil : Reps [] []
  | cons {x : Vl} {v : V} {xs : List Vl} {vs : List V} : Rep x v → Reps xs vs → Reps (x :: xs) (v :: vs)
end
def KR {κ : Type} : List (κ × Vl) → List (κ × V) → Prop := Paired fun (p : κ × Vl) (q : κ × V) => p.1 = q.1 ∧ Rep L ρ H p.2 q.2
def OR : Option Vl → Option V → Prop
  | some x, some v => Rep L ρ H x v
  | none, _ => True
  | _, _ => False
def SR : List (Option Vl) → List (Option V) → Prop := Paired (OR L ρ H)
inductive ObR : Ob → Addr → Prop
  | lst {xs : List Vl} {vs : List V} {a : Addr} : H a = some (.lst vs) → Reps L ρ H xs vs → ObR (.lst xs) a
  | ro {xs : List Vl} {vs : List V} {a : Addr} {o : Obj} : H a = some (.frz o (.lst vs)) → Reps L ρ H xs vs → ObR (.ro xs) a
  | dK {ks : List (Key × Vl)} {vs : List (Key × V)} {a : Addr} : H a = some (.dK vs) → KR L ρ H ks vs → ObR (.dK ks) a
  | dT {ks : List (List Key × Vl)} {vs : List (List Key × V)} {a : Addr} : H a = some (.dT vs) → KR L ρ H ks vs → ObR (.dT ks) a
  | sl {c : Nat} {xs : List (Option Vl)} {vs : List (Option V)} {a dx : Addr} : SlX.Slt H a (L.ca c) dx vs → (H dx = some (.own a) ∨ H dx = some (.xd [])) → SR L ρ H xs vs → ObR (.sl c xs) a
  | rng {lo hi : Int} {a : Addr} : H a = some (.rng lo hi) → ObR (.rng lo hi) a
/-- the abstract heap, laid out in the layer's -/
structure Sim (ah : AH) : Prop where
  len : ρ.length = ah.length
  nd : ρ.Nodup
  ob : ∀ (i : Nat) (a : Addr) (o : Ob), ρ[i]? = some a → ah[i]? = some o → ObR L ρ H o a
  tb : LamX.Tabs L.tb H
end

/-- what stands at a numbered address is none of these -/
def notOb : HO → Prop
  | .tup _ => True
  | .own _ => True
  | .xd _ => True
  | .frz _ (.tup _) => True
  | .tbl _ => True
  | _ => False
def ntb (o : HO) : Prop := ∀ ps, o ≠ .tbl ps
def nt (o : HO) : Prop := ntb o ∧ ∀ y, o ≠ .own y
structure Step (ρ : List Addr) (H : Hp) (ρ' : List Addr) (H' : Hp) : Prop where
  pre : ∃ δ, ρ' = ρ ++ δ ∧ ∀ a ∈ δ, ∀ o, H a = some o → ntb o → False
  keep : ∀ a o, H a = some o → a ∉ ρ → nt o → H' a = some o
  own : ∀ a y, H a = some (.own y) → a ∉ ρ → (∃ o, H y = some o ∧ ntb o) → H' a = some (.own y) ∨ (y ∈ ρ' ∧ H' a = some (.xd []))
  owd : ∀ a y, H a = some (.own y) → a ∉ ρ → ∃ o, H' a = some o ∧ ntb o

section
variable {L : Lw} {ρ ρ' ρ'' : List Addr} {H H' H'' : Hp} {ah ah' : AH}

theorem ObR.at {o : Ob} {a : Addr} (h : ObR L ρ H o a) : ∃ ho, H a = some ho ∧ ¬ notOb ho := by
  cases h with
  | lst e _ => exact ⟨_, e, id⟩
  | ro e _ => exact ⟨_, e, id⟩
  | dK e _ => exact ⟨_, e, id⟩
  | dT e _ => exact ⟨_, e, id⟩
  | rng e => exact ⟨_, e, id⟩
  | sl e _ _ =>
    rcases e with e | e
    · exact ⟨_, e.1, id⟩
    · exact ⟨_, e.1, id⟩
theorem ntb_of {o : HO} (h : ¬ notOb o) : ntb o := fun ps e => h (by rw [e]; trivial)
theorem nt_of {o : HO} (h : ¬ notOb o) : nt o := ⟨ntb_of h, fun ps e => h (by rw [e]; trivial)⟩
theorem Sim.at (S : Sim L ρ H ah) {a : Addr} (h : a ∈ ρ) : ∃ (i : Nat) (o : Ob), ρ[i]? = some a ∧ ah[i]? = some o ∧ ObR L ρ H o a := by
  obtain ⟨i, hi, e⟩ := List.mem_iff_getElem.mp h
  have e1 : ρ[i]? = some a := by rw [List.getElem?_eq_getElem hi, e]
  have h2 : i < ah.length := by rw [← S.len]; exact hi
  exact ⟨i, ah[i], e1, List.getElem?_eq_getElem h2, S.ob i a _ e1 (List.getElem?_eq_getElem h2)⟩
theorem Sim.out (S : Sim L ρ H ah) {a : Addr} {ho : HO} (e : H a = some ho) (n : notOb ho) : a ∉ ρ := fun h => by
  obtain ⟨_, _, _, _, r⟩ := S.at h
  obtain ⟨ho', e', n'⟩ := r.at
  rw [e] at e'; cases e'
  exact n' n
theorem Sim.fresh (S : Sim L ρ H ah) {a : Addr} (e : H a = none) : a ∉ ρ := fun h => by
  obtain ⟨_, _, _, _, r⟩ := S.at h
  obtain ⟨ho', e', n'⟩ := r.at
  rw [e] at e'; cases e'
theorem Step.refl : Step ρ H ρ H := ⟨⟨[], by simp, by simp⟩, fun _ _ h _ _ => h, fun _ _ h _ _ => .inl h, fun _ _ h _ => ⟨_, h, nofun⟩⟩
theorem Step.get (st : Step ρ H ρ' H') {i : Nat} {a : Addr} (h : ρ[i]? = some a) : ρ'[i]? = some a := by
  obtain ⟨δ, e, _⟩ := st.pre
  rw [e, List.getElem?_append_left (List.getElem?_eq_some_iff.mp h).1]
  exact h
theorem Step.mem (st : Step ρ H ρ' H') {a : Addr} (h : a ∈ ρ) : a ∈ ρ' := by
  obtain ⟨δ, e, _⟩ := st.pre
  rw [e]; exact List.mem_append_left _ h
theorem Step.out (st : Step ρ H ρ' H') {a : Addr} {o : HO} (h : a ∉ ρ) (e : H a = some o) (z : ntb o) : a ∉ ρ' := by
  obtain ⟨δ, er, n⟩ := st.pre
  rw [er]
  intro hm
  rcases List.mem_append.mp hm with hm | hm
  · exact h hm
  · exact n a hm o e z
theorem Step.live (S' : Sim L ρ' H' ah') (a : Step ρ H ρ' H') {y : Addr} (h : ∃ o, H y = some o ∧ ntb o) : ∃ o, H' y = some o ∧ ntb o := by
  obtain ⟨o, e, z⟩ := h
  by_cases hy : y ∈ ρ'
  · obtain ⟨_, _, _, _, r⟩ := S'.at hy
    obtain ⟨ho', e', n'⟩ := r.at
    exact ⟨ho', e', ntb_of n'⟩
  · have hn : y ∉ ρ := fun q => hy (a.mem q)
    by_cases hz : nt o
    · exact ⟨o, a.keep y o e hn hz, z⟩
    · have : ∃ x, o = .own x := Classical.byContradiction fun q => hz ⟨z, fun x e => q ⟨x, e⟩⟩
      obtain ⟨x, rfl⟩ := this
      exact a.owd y x e hn
theorem Step.trans (S' : Sim L ρ' H' ah') (a : Step ρ H ρ' H') (b : Step ρ' H' ρ'' H'') : Step ρ H ρ'' H'' := by
  refine ⟨?_, fun x o e n z => b.keep x o (a.keep x o e n z) (a.out n e z.1) z, fun x y e n lv => ?_, fun x y e n => ?_⟩
  · obtain ⟨δ, e1, n1⟩ := a.pre
    obtain ⟨δ', e2, n2⟩ := b.pre
    refine ⟨δ ++ δ', by rw [e2, e1, List.append_assoc], fun x hx o e z => ?_⟩
    rcases List.mem_append.mp hx with hx | hx
    · exact n1 x hx o e z
    · have nm : x ∉ ρ' := fun h => by
        obtain ⟨_, _, _, _, r⟩ := S'.at h
        obtain ⟨ho', e', n'⟩ := r.at
        exact n2 x hx _ e' (ntb_of n')
      have nm0 : x ∉ ρ := fun h => nm (a.mem h)
      by_cases hz : nt o
      · exact n2 x hx o (a.keep x o e nm0 hz) z
      · have : ∃ y, o = .own y := Classical.byContradiction fun h => hz ⟨z, fun y e => h ⟨y, e⟩⟩
        obtain ⟨y, rfl⟩ := this
        obtain ⟨o2, q, z2⟩ := a.owd x y e nm0
        exact n2 x hx _ q z2
  · rcases a.own x y e n lv with q | ⟨hy, q⟩
    · rcases b.own x y q (a.out n e (fun _ z => nomatch z)) (Step.live S' a lv) with q2 | q2
      · exact .inl q2
      · exact .inr q2
    · exact .inr ⟨b.mem hy, b.keep x _ q (a.out n e (fun _ z => nomatch z)) ⟨fun _ z => (nomatch z), fun _ z => (nomatch z)⟩⟩
  · obtain ⟨o, q, z⟩ := a.owd x y e n
    have nx := a.out n e (fun _ z => nomatch z)
    by_cases hz : nt o
    · exact ⟨o, b.keep x o q nx hz, z⟩
    · have : ∃ y, o = .own y := Classical.byContradiction fun h => hz ⟨z, fun y e => h ⟨y, e⟩⟩
      obtain ⟨y', rfl⟩ := this
      exact b.owd x y' q nx
/-! a code object is no instance -/
theorem heap_of : ∀ n : Nat, ∃ h : Heap, h.objs.size = n
  | 0 => ⟨{ objs := #[] }, rfl⟩
  | n + 1 => by
    obtain ⟨h, e⟩ := heap_of n
    exact ⟨h.push default, by rw [size_push', e]⟩
theorem codeO_ne_slO {c C dx : Addr} {q : Str} {vs : List (Option V)} : LamX.CodeO c q ≠ SlX.SlO c C dx vs := fun z => by
  unfold LamX.CodeO SlX.SlO at z
  injection z with z
  obtain ⟨h, e⟩ := heap_of c
  have z2 := congrFun z (h.push { cls := .none, data := .fields #[.none, .str q 0] })
  have g : (h.push { cls := .none, data := .fields #[.none, .str q 0] }).get? c = some { cls := .none, data := .fields #[.none, .str q 0] } := by
    rw [← e]; exact Heap.get?_push_size _ rfl
  have z3 : ∃ sl : Array (Option Value), (h.push { cls := .none, data := .fields #[.none, .str q 0] }).get? c = some { PySem.W.instObj C dx with slots := sl } ∧ SlX.SlR vs sl := by
    rw [← z2]
    exact ⟨_, _, 0, g, rfl, rfl⟩
  obtain ⟨us, e2, _⟩ := z3
  rw [g] at e2
  cases e2
theorem ObR.code {o : Ob} {a : Addr} {q : Str} (h : ObR L ρ H o a) : H a ≠ some (LamX.CodeO a q) := fun z => by
  cases h with
  | lst e _ => rw [e] at z; cases z
  | ro e _ => rw [e] at z; cases z
  | dK e _ => rw [e] at z; cases z
  | dT e _ => rw [e] at z; cases z
  | rng e => rw [e] at z; cases z
  | sl e _ _ =>
    rcases e with ⟨e, _⟩ | ⟨e, _⟩
    · rw [e] at z; cases z
    · rw [e] at z
      exact codeO_ne_slO (Option.some.inj z).symm
/-- the tables stay where only numbered objects are written -/
theorem Sim.tabs (S : Sim L ρ H ah) (st : Step ρ H ρ' H') (ht : ∀ a ps, H a = some (.tbl ps) → H' a = some (.tbl ps)) : LamX.Tabs L.tb H' := fun p hp => by
  obtain ⟨ps, e, tr, k⟩ := S.tb p hp
  refine ⟨ps, ht _ _ e, tr, fun pos cv h => ?_⟩
  obtain ⟨c, e1, e2⟩ := k pos cv h
  refine ⟨c, e1, st.keep _ _ e2 (fun hm => ?_) ⟨(LamX.codeO_ne · ), fun _ z => by unfold LamX.CodeO at z; cases z⟩⟩
  obtain ⟨_, _, _, _, r⟩ := S.at hm
  exact r.code e2
mutual
theorem Rep.step (S : Sim L ρ H ah) (st : Step ρ H ρ' H') : ∀ {x : Vl} {v : V}, Rep L ρ H x v → Rep L ρ' H' x v
  | _, _, .non => .non
  | _, _, .bl b => .bl b
  | _, _, .int i => .int i
  | _, _, .str x => .str x
  | _, _, .tup e r => .tup (st.keep _ _ e (S.out e trivial) ⟨fun _ z => (nomatch z), fun _ z => (nomatch z)⟩) (Reps.step S st r)
  | _, _, .kt e r => .kt e (Reps.step S st r)
  | _, _, .ref e => .ref (st.get e)
  | _, _, .fn f => .fn f
theorem Reps.step (S : Sim L ρ H ah) (st : Step ρ H ρ' H') : ∀ {xs : List Vl} {vs : List V}, Reps L ρ H xs vs → Reps L ρ' H' xs vs
  | _, _, .nil => .nil
  | _, _, .cons a b => .cons (Rep.step S st a) (Reps.step S st b)
end
theorem KR.step {κ : Type} (S : Sim L ρ H ah) (st : Step ρ H ρ' H') {xs : List (κ × Vl)} {vs : List (κ × V)} (h : KR L ρ H xs vs) : KR L ρ' H' xs vs :=
  Paired.mapP h fun _ _ q => ⟨q.1, q.2.step S st⟩
theorem OR.step (S : Sim L ρ H ah) (st : Step ρ H ρ' H') {x : Option Vl} {v : Option V} (h : OR L ρ H x v) : OR L ρ' H' x v := by
  cases x with
  | none => trivial
  | some x =>
    cases v with
    | none => exact h
    | some v => exact Rep.step S st h
theorem SR.step (S : Sim L ρ H ah) (st : Step ρ H ρ' H') {xs : List (Option Vl)} {vs : List (Option V)} (h : SR L ρ H xs vs) : SR L ρ' H' xs vs :=
  Paired.mapP h fun _ _ q => q.step S st
theorem slt_live {a C dx : Addr} {vs : List (Option V)} (q : SlX.Slt H a C dx vs) : ∃ o, H a = some o ∧ ntb o := by
  rcases q with q | q
  · exact ⟨_, q.1, nofun⟩
  · exact ⟨_, q.1, fun ps z => by unfold SlX.SlO at z; cases z⟩
/-- an object whose own place is kept -/
theorem ObR.step (S : Sim L ρ H ah) (st : Step ρ H ρ' H') {o : Ob} {a : Addr} (h : ObR L ρ H o a) (e : ∀ ho, H a = some ho → H' a = some ho) : ObR L ρ' H' o a := by
  cases h with
  | lst q r => exact .lst (e _ q) (r.step S st)
  | ro q r => exact .ro (e _ q) (r.step S st)
  | dK q r => exact .dK (e _ q) (r.step S st)
  | dT q r => exact .dT (e _ q) (r.step S st)
  | rng q => exact .rng (e _ q)
  | @sl _ _ _ _ dx q d r =>
    refine .sl (dx := dx) ?_ ?_ (r.step S st)
    · rcases q with ⟨q1, q2⟩ | ⟨q1, q2⟩
      · exact .inl ⟨e _ q1, q2⟩
      · exact .inr ⟨e _ q1, st.keep _ _ q2 (S.out q2 trivial) ⟨fun _ z => (nomatch z), fun _ z => (nomatch z)⟩⟩
    · rcases d with d | d
      · rcases st.own _ _ d (S.out d trivial) (slt_live q) with z | z
        · exact .inl z
        · exact .inr z.2
      · exact .inr (st.keep _ _ d (S.out d trivial) ⟨fun _ z => (nomatch z), fun _ z => (nomatch z)⟩)
/-! ### new things -/
theorem step_new {p : Addr} {o : HO} (hp : H p = none) : Step ρ H ρ (upd H p o) :=
  ⟨⟨[], by simp, by simp⟩, fun a u e _ _ => by rw [upd_ne (ne_of_none e hp)]; exact e, fun a u e _ _ => .inl (by rw [upd_ne (ne_of_none e hp)]; exact e), fun a u e _ => ⟨.own u, by rw [upd_ne (ne_of_none e hp)]; exact e, fun _ z => (nomatch z)⟩⟩
theorem ext_new {p : Addr} {o : HO} (hp : H p = none) : ∀ b u, H b = some u → upd H p o b = some u := fun b u e => by rw [upd_ne (ne_of_none e hp)]; exact e
/-- an object of no number is laid -/
theorem Sim.new (S : Sim L ρ H ah) {p : Addr} {o : HO} (hp : H p = none) : Sim L ρ (upd H p o) ah :=
  ⟨S.len, S.nd, (fun i a ob e1 e2 => (S.ob i a ob e1 e2).step S (step_new hp) fun ho e => by rw [upd_ne (ne_of_none e hp)]; exact e), S.tb.ext (ext_new hp)⟩
theorem step_num {p : Addr} (hp : H p = none) {ho : HO} : Step ρ H (ρ ++ [p]) (upd H p ho) :=
  ⟨⟨[p], rfl, fun a ha o e _ => by rw [List.mem_singleton.mp ha, hp] at e; cases e⟩, fun a u e _ _ => by rw [upd_ne (ne_of_none e hp)]; exact e, fun a u e _ _ => .inl (by rw [upd_ne (ne_of_none e hp)]; exact e), fun a u e _ => ⟨.own u, by rw [upd_ne (ne_of_none e hp)]; exact e, fun _ z => (nomatch z)⟩⟩
mutual
theorem Rep.more (δ : List Addr) : ∀ {x : Vl} {v : V}, Rep L ρ H x v → Rep L (ρ ++ δ) H x v
  | _, _, .non => .non
  | _, _, .bl b => .bl b
  | _, _, .int i => .int i
  | _, _, .str x => .str x
  | _, _, .tup e r => .tup e (Reps.more δ r)
  | _, _, .kt e r => .kt e (Reps.more δ r)
  | _, _, .ref e => .ref (by rw [List.getElem?_append_left (List.getElem?_eq_some_iff.mp e).1]; exact e)
  | _, _, .fn f => .fn f
theorem Reps.more (δ : List Addr) : ∀ {xs : List Vl} {vs : List V}, Reps L ρ H xs vs → Reps L (ρ ++ δ) H xs vs
  | _, _, .nil => .nil
  | _, _, .cons a b => .cons (Rep.more δ a) (Reps.more δ b)
end
theorem OR.more (δ : List Addr) {x : Option Vl} {v : Option V} (h : OR L ρ H x v) : OR L (ρ ++ δ) H x v := by
  cases x with
  | none => trivial
  | some x =>
    cases v with
    | none => exact h
    | some v => exact Rep.more δ h
theorem ObR.more (δ : List Addr) {o : Ob} {a : Addr} (h : ObR L ρ H o a) : ObR L (ρ ++ δ) H o a := by
  cases h with
  | lst q r => exact .lst q (r.more δ)
  | ro q r => exact .ro q (r.more δ)
  | dK q r => exact .dK q (Paired.mapP r fun _ _ q => ⟨q.1, q.2.more δ⟩)
  | dT q r => exact .dT q (Paired.mapP r fun _ _ q => ⟨q.1, q.2.more δ⟩)
  | rng q => exact .rng q
  | sl q d r => exact .sl q d (Paired.mapP r fun _ _ q => OR.more δ q)
/-- an object that is laid already gets the next number -/
theorem Sim.num (S : Sim L ρ H ah) {p : Addr} {o : Ob} (hp : p ∉ ρ) (hb : ObR L ρ H o p) : Sim L (ρ ++ [p]) H (ah ++ [o]) := by
  refine ⟨by simp [S.len], ?_, fun i a ob e1 e2 => ?_, S.tb⟩
  · rw [List.nodup_append]
    exact ⟨S.nd, by simp, fun a ha b hb e => hp (by rw [List.mem_singleton.mp hb] at e; rw [← e]; exact ha)⟩
  · by_cases hi : i < ρ.length
    · rw [List.getElem?_append_left hi] at e1
      rw [List.getElem?_append_left (by rw [← S.len]; exact hi)] at e2
      exact (S.ob i a ob e1 e2).more _
    · have hl : i = ρ.length := by
        have := (List.getElem?_eq_some_iff.mp e1).1
        rw [List.length_append, List.length_singleton] at this
        omega
      subst hl
      rw [List.getElem?_concat_length] at e1
      rw [S.len, List.getElem?_concat_length] at e2
      cases e1; cases e2
      exact hb.more _
/-! a list of no number is written -/
mutual
theorem Rep.side (h : ∀ a vs, H a = some (.tup vs) → H' a = some (.tup vs)) : ∀ {x : Vl} {v : V}, Rep L ρ H x v → Rep L ρ H' x v
  | _, _, .non => .non
  | _, _, .bl b => .bl b
  | _, _, .int i => .int i
  | _, _, .str x => .str x
  | _, _, .tup e r => .tup (h _ _ e) (Reps.side h r)
  | _, _, .kt e r => .kt e (Reps.side h r)
  | _, _, .ref e => .ref e
  | _, _, .fn f => .fn f
theorem Reps.side (h : ∀ a vs, H a = some (.tup vs) → H' a = some (.tup vs)) : ∀ {xs : List Vl} {vs : List V}, Reps L ρ H xs vs → Reps L ρ H' xs vs
  | _, _, .nil => .nil
  | _, _, .cons a b => .cons (Rep.side h a) (Reps.side h b)
end
theorem OR.side (h : ∀ a vs, H a = some (.tup vs) → H' a = some (.tup vs)) {x : Option Vl} {v : Option V} (q : OR L ρ H x v) : OR L ρ H' x v := by
  cases x with
  | none => trivial
  | some x =>
    cases v with
    | none => exact q
    | some v => exact Rep.side h q
def lstLike : HO → Prop
  | .lst _ => True
  | .dK _ => True
  | .dT _ => True
  | _ => False
theorem side_tup {D : Addr} {u w : HO} (hD : H D = some u) (hu : lstLike u) : ∀ a vs, H a = some (.tup vs) → upd H D w a = some (.tup vs) := fun a vs e => by
  rw [upd_ne (fun z => by rw [z, hD] at e; cases e; exact hu)]; exact e
theorem ObR.side {o : Ob} {a D : Addr} {u w : HO} (h : ObR L ρ H o a) (hD : H D = some u) (hu : lstLike u) (ha : a ≠ D) : ObR L ρ (upd H D w) o a := by
  have ht := side_tup (w := w) hD hu
  cases h with
  | lst q r => exact .lst (by rw [upd_ne ha]; exact q) (r.side ht)
  | ro q r => exact .ro (by rw [upd_ne ha]; exact q) (r.side ht)
  | dK q r => exact .dK (by rw [upd_ne ha]; exact q) (Paired.mapP r fun _ _ q => ⟨q.1, q.2.side ht⟩)
  | dT q r => exact .dT (by rw [upd_ne ha]; exact q) (Paired.mapP r fun _ _ q => ⟨q.1, q.2.side ht⟩)
  | rng q => exact .rng (by rw [upd_ne ha]; exact q)
  | @sl _ _ _ _ dx q d r =>
    have hd : ∀ {z : Addr} {u' : HO}, H z = some u' → (lstLike u' → False) → upd H D w z = some u' := fun {z u'} e n => by
      rw [upd_ne (fun y => by rw [y, hD] at e; cases e; exact n hu)]; exact e
    refine .sl (dx := dx) ?_ ?_ (Paired.mapP r fun _ _ q => OR.side ht q)
    · rcases q with ⟨q1, q2⟩ | ⟨q1, q2⟩
      · exact .inl ⟨hd q1 id, q2⟩
      · exact .inr ⟨hd q1 id, hd q2 id⟩
    · rcases d with d | d
      · exact .inl (hd d id)
      · exact .inr (hd d id)
theorem Sim.side (S : Sim L ρ H ah) {D : Addr} {u w : HO} (hD : H D = some u) (hu : lstLike u) (hn : D ∉ ρ) : Sim L ρ (upd H D w) ah := by
  refine ⟨S.len, S.nd, fun i a o e1 e2 => (S.ob i a o e1 e2).side hD hu (fun z => hn (by rw [← z]; exact List.mem_of_getElem? e1)), fun p hp => ?_⟩
  obtain ⟨ps, e, tr, k⟩ := S.tb p hp
  refine ⟨ps, by rw [upd_ne (fun z => by rw [z, hD] at e; cases e; exact hu)]; exact e, tr, fun pos cv h => ?_⟩
  obtain ⟨c, e1, e2⟩ := k pos cv h
  exact ⟨c, e1, by rw [upd_ne (fun z => by rw [z, hD] at e2; unfold LamX.CodeO at e2; cases e2; exact hu)]; exact e2⟩
theorem Step.side (st : Step ρ H ρ' H') {D : Addr} {w : HO} (hD : H D = none) : Step ρ H ρ' (upd H' D w) :=
  ⟨st.pre, fun a o e n z => by rw [upd_ne (ne_of_none e hD)]; exact st.keep a o e n z, fun a y e n lv => by rw [upd_ne (ne_of_none e hD)]; exact st.own a y e n lv, fun a y e n => by rw [upd_ne (ne_of_none e hD)]; exact st.owd a y e n⟩
/-- a new numbered object -/
theorem Sim.push (S : Sim L ρ H ah) {p : Addr} {ho : HO} {o : Ob} (hp : H p = none) (hb : ∀ (ρ' : List Addr) (H' : Hp), Step ρ H ρ' H' → H' p = some ho → ObR L ρ' H' o p) : Sim L (ρ ++ [p]) (upd H p ho) (ah ++ [o]) := by
  have S1 : Sim L ρ (upd H p ho) ah := S.new hp
  have hpr : p ∉ ρ := S.fresh hp
  refine ⟨by simp [S.len], ?_, fun i a ob e1 e2 => ?_, ?_⟩
  · rw [List.nodup_append]
    exact ⟨S.nd, by simp, fun a ha b hb e => hpr (by rw [List.mem_singleton.mp hb] at e; rw [← e]; exact ha)⟩
  · by_cases hi : i < ρ.length
    · rw [List.getElem?_append_left hi] at e1
      rw [List.getElem?_append_left (by rw [← S.len]; exact hi)] at e2
      exact (S.ob i a ob e1 e2).step S (step_num hp) fun u e => by rw [upd_ne (ne_of_none e hp)]; exact e
    · have hl : i = ρ.length := by
        have := (List.getElem?_eq_some_iff.mp e1).1
        rw [List.length_append, List.length_singleton] at this
        omega
      subst hl
      rw [List.getElem?_concat_length] at e1
      rw [S.len, List.getElem?_concat_length] at e2
      cases e1; cases e2
      exact hb _ _ (step_num hp) upd_same
  · exact S1.tb
theorem Rep.last {p : Addr} {n : Nat} (h : n = ρ.length) : Rep L (ρ ++ [p]) H (.ref n) (.ref p) := .ref (by rw [h, List.getElem?_concat_length])
/-- a numbered object is written -/
theorem step_set {i : Nat} {a : Addr} {ho : HO} (e : ρ[i]? = some a) : Step ρ H ρ (upd H a ho) :=
  ⟨⟨[], by simp, by simp⟩, fun b u q n _ => by
    have : b ≠ a := fun z => n (by rw [z]; exact List.mem_of_getElem? e)
    rw [upd_ne this]; exact q, fun b u q n _ => .inl (by
    have : b ≠ a := fun z => n (by rw [z]; exact List.mem_of_getElem? e)
    rw [upd_ne this]; exact q), fun b u q n => ⟨.own u, by
    have : b ≠ a := fun z => n (by rw [z]; exact List.mem_of_getElem? e)
    rw [upd_ne this]; exact q, fun _ z => (nomatch z)⟩⟩
theorem Sim.set (S : Sim L ρ H ah) {i : Nat} {a : Addr} {ho : HO} {o : Ob} (e : ρ[i]? = some a) (hb : ∀ H', Step ρ H ρ H' → H' a = some ho → ObR L ρ H' o a) : Sim L ρ (upd H a ho) (ah.set i o) := by
  refine ⟨by simp [S.len], S.nd, fun j b ob e1 e2 => ?_, S.tabs (step_set e) fun b ps q => by rw [upd_ne (fun z => S.out q trivial (by rw [z]; exact List.mem_of_getElem? e))]; exact q⟩
  by_cases hj : j = i
  · subst hj
    rw [e] at e1; cases e1
    have hlt : j < ah.length := by rw [← S.len]; exact (List.getElem?_eq_some_iff.mp e).1
    rw [List.getElem?_set_self hlt] at e2
    cases e2
    exact hb _ (step_set e) upd_same
  · rw [List.getElem?_set_ne (Ne.symm hj)] at e2
    have hne : b ≠ a := fun z => by
      subst z
      obtain ⟨h1, q1⟩ := List.getElem?_eq_some_iff.mp e1
      obtain ⟨h2, q2⟩ := List.getElem?_eq_some_iff.mp e
      exact hj ((List.getElem_inj S.nd).mp (q1.trans q2.symm))
    exact (S.ob j b ob e1 e2).step S (step_set e) fun u q => by rw [upd_ne hne]; exact q
/-- objects of no number may change with it -/
theorem Sim.upd {i : Nat} {a : Addr} {o : Ob} (S : Sim L ρ H ah) (e : ρ[i]? = some a) (st : Step ρ H ρ H') (hk : ∀ b ∈ ρ, b ≠ a → ∀ ho, H b = some ho → H' b = some ho) (ht : ∀ b ps, H b = some (.tbl ps) → H' b = some (.tbl ps)) (hb : ObR L ρ H' o a) : Sim L ρ H' (ah.set i o) := by
  refine ⟨by simp [S.len], S.nd, fun j b ob e1 e2 => ?_, S.tabs st ht⟩
  by_cases hj : j = i
  · subst hj
    rw [e] at e1; cases e1
    have hlt : j < ah.length := by rw [← S.len]; exact (List.getElem?_eq_some_iff.mp e).1
    rw [List.getElem?_set_self hlt] at e2
    cases e2
    exact hb
  · rw [List.getElem?_set_ne (Ne.symm hj)] at e2
    have hne : b ≠ a := fun z => by
      subst z
      obtain ⟨h1, q1⟩ := List.getElem?_eq_some_iff.mp e1
      obtain ⟨h2, q2⟩ := List.getElem?_eq_some_iff.mp e
      exact hj ((List.getElem_inj S.nd).mp (q1.trans q2.symm))
    exact (S.ob j b ob e1 e2).step S st fun u q => hk b (List.mem_of_getElem? e1) hne u q
/-! ### sequences of values -/
theorem Reps.length : ∀ {xs : List Vl} {vs : List V}, Reps L ρ H xs vs → xs.length = vs.length
  | _, _, .nil => rfl
  | _, _, .cons _ t => by simp [Reps.length t]
theorem Reps.get : ∀ {xs : List Vl} {vs : List V} {i : Nat} {x : Vl}, Reps L ρ H xs vs → xs[i]? = some x → ∃ v, vs[i]? = some v ∧ Rep L ρ H x v
  | _, _, _, _, .nil, e => by simp at e
  | _, _, 0, _, .cons r _, e => by simp at e; subst e; exact ⟨_, rfl, r⟩
  | _, _, i + 1, x, .cons _ t, e => by
    obtain ⟨v, h1, h2⟩ := Reps.get (i := i) (x := x) t (by simpa using e)
    exact ⟨v, by simpa using h1, h2⟩
theorem Reps.append : ∀ {xs ys : List Vl} {vs ws : List V}, Reps L ρ H xs vs → Reps L ρ H ys ws → Reps L ρ H (xs ++ ys) (vs ++ ws)
  | _, _, _, _, .nil, h => h
  | _, _, _, _, .cons r t, h => .cons r (Reps.append t h)
theorem Reps.snoc {xs : List Vl} {vs : List V} {x : Vl} {v : V} (h : Reps L ρ H xs vs) (r : Rep L ρ H x v) : Reps L ρ H (xs ++ [x]) (vs ++ [v]) := h.append (.cons r .nil)
theorem Reps.drop : ∀ {xs : List Vl} {vs : List V} (n : Nat), Reps L ρ H xs vs → Reps L ρ H (xs.drop n) (vs.drop n)
  | _, _, 0, h => h
  | _, _, _ + 1, .nil => .nil
  | _, _, n + 1, .cons _ t => Reps.drop n t
theorem Reps.take : ∀ {xs : List Vl} {vs : List V} (n : Nat), Reps L ρ H xs vs → Reps L ρ H (xs.take n) (vs.take n)
  | _, _, 0, _ => .nil
  | _, _, _ + 1, .nil => .nil
  | _, _, n + 1, .cons r t => .cons r (Reps.take n t)
theorem Reps.set {x : Vl} {v : V} (r : Rep L ρ H x v) : ∀ {xs : List Vl} {vs : List V} (i : Nat), Reps L ρ H xs vs → Reps L ρ H (xs.set i x) (vs.set i v)
  | _, _, _, .nil => .nil
  | _, _, 0, .cons _ t => .cons r t
  | _, _, i + 1, .cons q t => .cons q (Reps.set r i t)
theorem Reps.rev {xs : List Vl} {vs : List V} (h : Reps L ρ H xs vs) : Reps L ρ H xs.reverse vs.reverse := by
  induction xs generalizing vs with
  | nil => cases h; exact .nil
  | cons x xs ih =>
    cases h with
    | cons r t =>
      rw [List.reverse_cons, List.reverse_cons]
      exact (ih t).snoc r
/-! ### the slots -/
def EnvR (L : Lw) (ρ : List Addr) (H : Hp) (σ' : Sg) (σ : L2.St) : Prop := SR L ρ H σ' σ
theorem SR.get : ∀ {xs : List (Option Vl)} {vs : List (Option V)} {i : Nat} {x : Vl}, SR L ρ H xs vs → xs[i]? = some (some x) → ∃ v, vs[i]? = some (some v) ∧ Rep L ρ H x v
  | _, _, _, _, .nil, e => by simp at e
  | _, _, 0, x, .cons (b := b) r _, e => by
    simp at e; subst e
    cases b with
    | none => exact False.elim r
    | some v => exact ⟨v, rfl, r⟩
  | _, _, i + 1, x, .cons _ t, e => by
    obtain ⟨v, h1, h2⟩ := SR.get (i := i) (x := x) t (by simpa using e)
    exact ⟨v, by simpa using h1, h2⟩
theorem SR.set {x : Vl} {v : V} (r : Rep L ρ H x v) : ∀ {xs : List (Option Vl)} {vs : List (Option V)} (i : Nat), SR L ρ H xs vs → SR L ρ H (xs.set i (some x)) (vs.set i (some v))
  | _, _, _, .nil => .nil
  | _, _, 0, .cons _ t => .cons r t
  | _, _, i + 1, .cons q t => .cons q (SR.set r i t)
theorem SR.unset : ∀ {xs : List (Option Vl)} {vs : List (Option V)} (i : Nat), SR L ρ H xs vs → SR L ρ H (xs.set i none) (vs.set i none)
  | _, _, _, .nil => .nil
  | _, _, 0, .cons _ t => .cons trivial t
  | _, _, i + 1, .cons q t => .cons q (SR.unset i t)
theorem SR.append : ∀ {xs ys : List (Option Vl)} {vs ws : List (Option V)}, SR L ρ H xs vs → SR L ρ H ys ws → SR L ρ H (xs ++ ys) (vs ++ ws)
  | _, _, _, _, .nil, h => h
  | _, _, _, _, .cons r t, h => .cons r (SR.append t h)
theorem SR.nones : ∀ n : Nat, SR L ρ H (List.replicate n none) (List.replicate n none)
  | 0 => .nil
  | n + 1 => .cons trivial (SR.nones n)
theorem SR.somes : ∀ {xs : List Vl} {vs : List V}, Reps L ρ H xs vs → SR L ρ H (xs.map some) (vs.map some)
  | _, _, .nil => .nil
  | _, _, .cons r t => .cons r (SR.somes t)
def wipeA (σ : Sg) : List Nat → Sg
  | [] => σ
  | v :: vs => (wipeA σ vs).set v none
theorem EnvR.wipe {σ' : Sg} {σ : L2.St} (h : EnvR L ρ H σ' σ) : ∀ vs : List Nat, EnvR L ρ H (wipeA σ' vs) (wipe σ vs)
  | [] => h
  | v :: vs => SR.unset v (EnvR.wipe h vs)
/-! ### dicts -/
def valA {κ : Type} [DecidableEq κ] (ks : List (κ × Vl)) (k : κ) : Option Vl := (ks.find? fun p => decide (p.1 = k)).map (·.2)
def putA {κ : Type} [DecidableEq κ] (ks : List (κ × Vl)) (k : κ) (v : Vl) : List (κ × Vl) :=
  if ks.any fun p => decide (p.1 = k) then ks.map fun p => if p.1 = k then (p.1, v) else p else ks ++ [(k, v)]
def dropA {κ : Type} [DecidableEq κ] (ks : List (κ × Vl)) (k : κ) : List (κ × Vl) := ks.filter fun p => decide (p.1 ≠ k)
end
end Ip

set_option Elab.async false
set_option linter.all false
set_option maxRecDepth 100000
set_option maxHeartbeats 4000000
namespace Ip
open PySem PySem.Spec PyProof.Rows L2

/-! ### operations on values -/
def line : Nat := 16777216
inductive Bop where
  | add | sub | mul | fdiv | mod | pow | shl | shr | band | bor
inductive Cop where
  | eq | ne | lt | le | gt | ge | isN | notN | in_ | nin
inductive Ty where
  | int | bool | str | tuple | list | dict
  deriving DecidableEq
inductive Blt where
  | len | tuple | list | sorted | sum | abs | max2 | min2 | all | any | int | rng1 | rng2
  deriving DecidableEq
inductive Mth where
  | append | extend | pop | get | dpop | setd
  deriving DecidableEq
def small (n : Nat) (i : Int) : Bool := Nat.blt i.natAbs (2 ^ n)
def addV : Vl → Vl → M Vl
  | .int i, .int j => ret (.int (i + j))
  | .str x, .str y => guardB (Nat.ble (x.length + y.length) line) (ret (.str (x ++ y)))
  | .tup xs, .tup ys => guardB (Nat.ble (xs.length + ys.length) line) (ret (.tup (xs ++ ys)))
  | .ref i, .ref j => (rd i).bind fun o => (rd j).bind fun o' => match o, o' with
    | .lst xs, .lst ys => guardB (Nat.ble (xs.length + ys.length) line) (alloc (.lst (xs ++ ys)))
    | _, _ => stuck
  | _, _ => stuck
def mulV : Vl → Vl → M Vl
  | .int i, .int j => guardB (small 4000 i && small 4000 j) (ret (.int (i * j)))
  | .ref i, .int k => (rd i).bind fun o => match o with
    | .lst xs => guardB (decide (0 ≤ k) && Nat.ble (xs.length * k.toNat) line && Nat.ble k.toNat line) (alloc (.lst (List.replicate k.toNat xs).flatten))
    | _ => stuck
  | _, _ => stuck
def intV (f : Int → Int → Bool) (g : Int → Int → Int) : Vl → Vl → M Vl
  | .int i, .int j => guardB (f i j) (ret (.int (g i j)))
  | _, _ => stuck
def bop : Bop → Vl → Vl → M Vl
  | .add => addV
  | .sub => intV (fun _ _ => true) (fun i j => i - j)
  | .mul => mulV
  | .fdiv => intV (fun _ j => decide (0 < j) && small 4000 j) (fun i j => i / j)
  | .mod => intV (fun _ j => decide (0 < j)) (fun i j => i % j)
  | .pow => intV (fun i j => decide (0 ≤ j) && decide (j ≤ 1000) && small 60 i) (fun i j => i ^ j.toNat)
  | .shl => intV (fun i j => decide (0 ≤ j) && decide (j ≤ 1000) && small 60 i) (fun i j => i * 2 ^ j.toNat)
  | .shr => intV (fun _ j => decide (0 ≤ j)) (fun i j => i / 2 ^ j.toNat)
  | .band => intV (fun _ _ => true) Builtin.bitAnd
  | .bor => intV (fun _ _ => true) Builtin.bitOr
/-! values as data -/
def datl (f : Vl → Option PyData) : List Vl → Option (List PyData)
  | [] => some []
  | x :: xs => match f x, datl f xs with
    | some d, some ds => some (d :: ds)
    | _, _ => none
def dat : Nat → AH → Vl → Option PyData
  | 0, _, _ => none
  | n + 1, h, v => match v with
    | .non => some .none
    | .bl b => some (.bool b)
    | .int i => some (.int i)
    | .str x => some (.str x)
    | .tup xs => (datl (dat n h) xs).map .tuple
    | .kt xs => (datl (dat n h) xs).map .tuple
    | .ref i => match h[i]? with
      | some (.lst xs) => (datl (dat n h) xs).map .list
      | some (.ro xs) => (datl (dat n h) xs).map .list
      | _ => none
    | .fn _ => none
/-! flat values, compared by == -/
def veq : Vl → Vl → Bool
  | .non, .non => true
  | .bl a, .bl b => a == b
  | .bl a, .int j => (if a then 1 else 0) == j
  | .int i, .bl b => i == (if b then 1 else 0)
  | .int i, .int j => i == j
  | .str x, .str y => x == y
  | _, _ => false
def eqV_ (x y : Vl) : M Bool := fun h => match dat 60 h x, dat 60 h y with
  | some d, some e => if SeqAt.shaped d && SeqAt.shaped e then .ok (PyData.eqv d e) h else .no
  | _, _ => .no
/-! order: whole numbers, texts, tuples of whole numbers -/
def intsA : List Vl → Option (List Int)
  | [] => some []
  | .int i :: xs => (intsA xs).map (i :: ·)
  | _ => none
def lexI : List Int → List Int → Bool
  | [], [] => false
  | [], _ :: _ => true
  | _ :: _, [] => false
  | x :: xs, y :: ys => if x = y then lexI xs ys else decide (x < y)
def ltV : Vl → Vl → Option Bool
  | .int i, .int j => some (decide (i < j))
  | .str x, .str y => some (decide (x.cps.toList < y.cps.toList))
  | .tup xs, .tup ys => match intsA xs, intsA ys with
    | some a, some b => some (lexI a b)
    | _, _ => none
  | _, _ => none
def optM {α : Type} : Option α → M α
  | some a => ret a
  | none => stuck
/-- what `in` looks at -/
def flatA : Vl → Bool
  | .non => true
  | .bl _ => true
  | .int _ => true
  | .str _ => true
  | _ => false
def keyOf : Vl → Option Key
  | .int i => some (.inl i)
  | .str x => some (.inr x)
  | _ => none
def keysOf : List Vl → Option (List Key)
  | [] => some []
  | x :: xs => match keyOf x, keysOf xs with
    | some k, some ks => some (k :: ks)
    | _, _ => none
def ofKey : Key → Vl
  | .inl i => .int i
  | .inr x => .str x
/-- what a dict has at a value -/
def dGet : Ob → Vl → M (Option Vl)
  | .dK ks, v => match keyOf v with
    | some k => ret (valA ks k)
    | none => stuck
  | .dT ks, .tup vs => match keysOf vs with
    | some k => ret (valA ks k)
    | none => stuck
  | _, _ => stuck
def dPut : Ob → Vl → Vl → M Ob
  | .dK ks, v, x => match keyOf v with
    | some k => guardB (Nat.blt ks.length line) (ret (.dK (putA ks k x)))
    | none => stuck
  | .dT ks, .tup vs, x => match keysOf vs with
    | some k => guardB (Nat.blt ks.length line) (ret (.dT (putA ks k x)))
    | none => stuck
  | _, _, _ => stuck
def seqIn (x : Vl) (xs : List Vl) : M Bool := guardB (flatA x && xs.all flatA) (ret (xs.any fun y => veq y x))
def inV_ (x : Vl) : Vl → M Bool
  | .tup xs => seqIn x xs
  | .kt xs => seqIn x xs
  | .ref i => (rd i).bind fun o => match o with
    | .lst xs => seqIn x xs
    | .ro xs => seqIn x xs
    | o => (dGet o x).bind fun r => ret r.isSome
  | _ => stuck
def isNonA : Vl → Bool
  | .non => true
  | _ => false
def cop : Cop → Vl → Vl → M Vl
  | .eq, x, y => (eqV_ x y).bind fun b => ret (.bl b)
  | .ne, x, y => (eqV_ x y).bind fun b => ret (.bl (!b))
  | .lt, x, y => (optM (ltV x y)).bind fun b => ret (.bl b)
  | .gt, .int i, .int j => ret (.bl (decide (j < i)))
  | .le, .int i, .int j => ret (.bl (decide (i ≤ j)))
  | .ge, .int i, .int j => ret (.bl (decide (j ≤ i)))
  | .isN, x, .non => ret (.bl (isNonA x))
  | .notN, x, .non => ret (.bl (!isNonA x))
  | .in_, x, y => (inV_ x y).bind fun b => ret (.bl b)
  | .nin, x, y => (inV_ x y).bind fun b => ret (.bl (!b))
  | _, _, _ => stuck
def tru : Vl → M Bool
  | .non => ret false
  | .bl b => ret b
  | .int i => ret (i != 0)
  | .str x => guardB (Nat.ble x.length line) (ret ((x.length : Int) != 0))
  | .tup xs => ret (!xs.isEmpty)
  | .ref i => (rd i).bind fun o => match o with
    | .lst xs => ret (!xs.isEmpty)
    | .ro xs => ret (!xs.isEmpty)
    | .dK ks => ret (!ks.isEmpty)
    | _ => stuck
  | .fn _ => stuck
  | .kt _ => stuck
def isTy (t : Ty) : Vl → M Bool
  | .non => ret false
  | .bl _ => ret (t == .int || t == .bool)
  | .int _ => ret (t == .int)
  | .str _ => ret (t == .str)
  | .tup _ => ret (t == .tuple)
  | .ref i => (rd i).bind fun o => match o with
    | .lst _ => ret (t == .list)
    | .dK _ => ret (t == .dict)
    | .dT _ => ret (t == .dict)
    | _ => stuck
  | .fn _ => stuck
  | .kt _ => stuck
/-- the members of what can be walked -/
def mems : Vl → M (List Vl)
  | .tup xs => ret xs
  | .ref i => (rd i).bind fun o => match o with
    | .lst xs => ret xs
    | .ro xs => ret xs
    | .dK ks => ret (ks.map fun p => ofKey p.1)
    | .dT ks => ret (ks.map fun p => .tup (p.1.map ofKey))
    | _ => stuck
  | _ => stuck
def near (i : Int) : Bool := decide (-(2 ^ 62) ≤ i) && decide (i < 2 ^ 62)
def rangeA (lo : Int) : Nat → List Vl
  | 0 => []
  | n + 1 => .int lo :: rangeA (lo + 1) n
/-- a range object's members, too -/
def mems2 : Vl → M (List Vl)
  | .ref i => fun h => match h[i]? with
    | some (.rng lo hi) => if near lo && near hi && Nat.ble (hi - lo).toNat line then .ok (rangeA lo (hi - lo).toNat) h else .no
    | _ => mems (.ref i) h
  | x => mems x
def insertBy {α : Type} (le : α → α → Bool) (x : α) : List α → List α
  | [] => [x]
  | y :: ys => if le x y then x :: y :: ys else y :: insertBy le x ys
def isort {α : Type} (le : α → α → Bool) : List α → List α
  | [] => []
  | x :: xs => insertBy le x (isort le xs)
def allAlike (ds : List PyData) : Bool := ds.all fun d => ds.all fun e => PySem.W.alike d e
def neTup : PyData → Bool
  | .tuple (_ :: _) => true
  | _ => false
def plainD : PyData → Bool
  | .none => false
  | .tuple _ => false
  | _ => true
def sortable (ds : List PyData) : Bool := allAlike ds && (ds.all neTup || ds.all plainD) && ds.all fun d => decide (d.depth ≤ 60)
def leP (p q : Vl × PyData) : Bool := !PySem.W.dataLt q.2 p.2
/-- sorted(xs) -/
def srtV (xs : List Vl) : M Vl := fun h => match datl (dat 60 h) xs with
  | some ds => if sortable ds && Nat.ble xs.length line then alloc (.lst ((isort leP (xs.zip ds)).map (·.1))) h else .no
  | none => .no
def bools : List Vl → Option (List Bool)
  | [] => some []
  | .bl b :: xs => (bools xs).map (b :: ·)
  | _ => none
def sumI : List Vl → Option Int
  | [] => some 0
  | .int i :: xs => (sumI xs).map (i + ·)
  | _ => none
def blt : Blt → List Vl → M Vl
  | .len, [x] => match x with
    | .str z => guardB (Nat.ble z.length line) (ret (.int z.length))
    | x => (mems x).bind fun xs => ret (.int xs.length)
  | .tuple, [x] => (mems2 x).bind fun xs => ret (.tup xs)
  | .list, [x] => (mems2 x).bind fun xs => alloc (.lst xs)
  | .sorted, [x] => (mems2 x).bind srtV
  | .sum, [.ref i] => (rd i).bind fun o => match o with
    | .lst xs => (optM (sumI xs)).bind fun n => ret (.int n)
    | _ => stuck
  | .abs, [.int i] => ret (.int (if i < 0 then -i else i))
  | .max2, [.int i, .int j] => ret (.int (if j > i then j else i))
  | .min2, [.int i, .int j] => ret (.int (if j < i then j else i))
  | .all, [.ref i] => (rd i).bind fun o => match o with
    | .lst xs => (optM (bools xs)).bind fun bs => ret (.bl (bs.all id))
    | _ => stuck
  | .any, [.ref i] => (rd i).bind fun o => match o with
    | .lst xs => (optM (bools xs)).bind fun bs => ret (.bl (bs.any id))
    | _ => stuck
  | .int, [.int i] => ret (.int i)
  | .rng1, [.int j] => alloc (.rng 0 j)
  | .rng2, [.int i, .int j] => alloc (.rng i j)
  | .int, [.bl k] => ret (.int (if k then 1 else 0))
  | _, _ => stuck
def ixV : Vl → Vl → M Vl
  | .tup xs, .int k => optM (atI xs k)
  | .kt xs, .int k => optM (atI xs k)
  | .str z, .int k => guardB (Nat.ble z.length line) ((optM (atI z.cps.toList k)).bind fun c => ret (.str ⟨#[c]⟩))
  | .ref i, v => (rd i).bind fun o => match o, v with
    | .lst xs, .int k => optM (atI xs k)
    | .ro xs, .int k => optM (atI xs k)
    | .dK ks, v => (dGet (.dK ks) v).bind optM
    | .dT ks, v => (dGet (.dT ks) v).bind optM
    | _, _ => stuck
  | _, _ => stuck
def cutA (xs : List Vl) (lo hi : Option Int) : List Vl := (xs.drop (HT.sIx xs.length 0 lo)).take (HT.sIx xs.length xs.length hi - HT.sIx xs.length 0 lo)
def slcV : Vl → Option Int → Option Int → M Vl
  | .tup xs, lo, hi => ret (.tup (cutA xs lo hi))
  | .ref i, lo, hi => (rd i).bind fun o => match o with
    | .lst xs => alloc (.lst (cutA xs lo hi))
    | _ => stuck
  | _, _, _ => stuck
/-- o[i] = v -/
def setV (o i v : Vl) : M Unit := match o with
  | .ref a => (rd a).bind fun ob => match ob, i with
    | .lst xs, .int k => match ixN xs.length k with
      | some j => wr a (.lst (xs.set j v))
      | none => stuck
    | .dK ks, i => (dPut (.dK ks) i v).bind fun ob' => wr a ob'
    | .dT ks, i => (dPut (.dT ks) i v).bind fun ob' => wr a ob'
    | _, _ => stuck
  | _ => stuck
/-- whose method it is -/
def chkT : Mth → Vl → M Unit
  | .append, .ref i => (rd i).bind fun o => match o with
    | .lst _ => ret ()
    | _ => stuck
  | .extend, .ref i => (rd i).bind fun o => match o with
    | .lst _ => ret ()
    | _ => stuck
  | .pop, .ref i => (rd i).bind fun o => match o with
    | .lst _ => ret ()
    | _ => stuck
  | .get, .ref i => (rd i).bind fun o => match o with
    | .dK _ => ret ()
    | .dT _ => ret ()
    | _ => stuck
  | .dpop, .ref i => (rd i).bind fun o => match o with
    | .dK _ => ret ()
    | _ => stuck
  | .setd, .ref i => (rd i).bind fun o => match o with
    | .dK _ => ret ()
    | _ => stuck
  | _, _ => stuck
def mth : Mth → Vl → List Vl → M Vl
  | .append, .ref i, [v] => (rd i).bind fun o => match o with
    | .lst xs => guardB (Nat.blt xs.length line) ((wr i (.lst (xs ++ [v]))).bind fun _ => ret .non)
    | _ => stuck
  | .extend, .ref i, [.ref j] => (rd i).bind fun o => (rd j).bind fun o' => match o, o' with
    | .lst xs, .lst ys => guardB (Nat.ble (xs.length + ys.length) line) ((wr i (.lst (xs ++ ys))).bind fun _ => ret .non)
    | _, _ => stuck
  | .pop, .ref i, [] => (rd i).bind fun o => match o with
    | .lst xs => match xs[xs.length - 1]? with
      | some y => (wr i (.lst xs.dropLast)).bind fun _ => ret y
      | none => stuck
    | _ => stuck
  | .pop, .ref i, [.int k] => (rd i).bind fun o => match o with
    | .lst xs => guardB (near k) (match seqIndex? k xs.length with
      | some j => match xs[j]? with
        | some y => (wr i (.lst (xs.eraseIdx j))).bind fun _ => ret y
        | none => stuck
      | none => stuck)
    | _ => stuck
  | .get, .ref i, [k] => (rd i).bind fun o => (dGet o k).bind fun r => ret (r.getD .non)
  | .get, .ref i, [k, d] => (rd i).bind fun o => (dGet o k).bind fun r => ret (r.getD d)
  | .dpop, .ref i, [k] => (rd i).bind fun o => match o with
    | .dK ks => match keyOf k with
      | some k => match valA ks k with
        | some v => (wr i (.dK (dropA ks k))).bind fun _ => ret v
        | none => stuck
      | none => stuck
    | _ => stuck
  | .setd, .ref i, [k, d] => (rd i).bind fun o => match o with
    | .dK ks => guardB (Nat.blt ks.length line) (match keyOf k with
      | some k => match valA ks k with
        | some v => ret v
        | none => (wr i (.dK (putA ks k d))).bind fun _ => ret d
      | none => stuck)
    | _ => stuck
  | _, _, _ => stuck
end Ip

set_option Elab.async false
set_option linter.all false
set_option maxRecDepth 100000
set_option maxHeartbeats 4000000
namespace Ip
open PySem PySem.Spec PyProof.Rows L2

/-! ### the text, by places -/
mutual
inductive Ex where
  | dead
  | var (i : Nat) | int (i : Int) | str (x : Str) | bl (b : Bool) | non
  | glob (x : Str) (v : Vl)
  | fnv (f : Nat)
  | tup (es : Exs) | lst (es : Exs) | dK | dT
  | bin (op : Bop) (a b : Ex) | neg (a : Ex)
  | cmp (op : Cop) (a b : Ex) | chn (p q : Cop) (a b c : Ex)
  | and_ (a b : Ex) | or_ (a b : Ex) | not_ (a : Ex) | ite_ (c : Te) (a b : Ex)
  | isi (a : Ex) (t : Ty)
  | call (f : Nat) (es : Exs)
  | blt (b : Blt) (es : Exs)
  | mth (m : Mth) (o : Ex) (es : Exs)
  | ix (a i : Ex) | slc (a : Ex) (lo hi : Oe) | rvs (a : Ex)
  | lc (own : List Nat) (tg : Tg) (it : Itr) (ifs : Ot) (e : Ex)
  | lc2 (own own1 : List Nat) (tg : Tg) (it : Itr) (ifs : Ot) (tg1 : Tg) (it1 : Itr) (ifs1 : Ot) (e : Ex)
  | dc (tb : Bool) (own : List Nat) (tg : Tg) (it : Itr) (ifs : Ot) (k v : Ex)
  | dc2 (tb : Bool) (own own1 : List Nat) (tg : Tg) (it : Itr) (ifs : Ot) (tg1 : Tg) (it1 : Itr) (ifs1 : Ot) (k v : Ex)
  | srtI (o : Ex)
  | fld (tb : List (Nat × Nat)) (f : Str) (o : Ex) | mcl (c f : Nat) (m : Str) (o : Ex) (es : Exs) | new (c f : Nat) (es : Exs)
  | callF (f : Nat) (es : Exs) | calF (m i : Nat) (es : Exs) | callG (fr : Bool) (f : Nat) (es : Exs)
  | wrd (ws : List (Nat × Str × Bool)) (fine : Str) (e : Ex)
inductive Exs where
  | nil | cons (e : Ex) (es : Exs)
inductive Oe where
  | non | som (e : Ex)
inductive Te where
  | val (e : Ex) | cmp (op : Cop) (a b : Ex) | chn (p q : Cop) (a b c : Ex) | and_ (a b : Te) | or_ (a b : Te) | not_ (a : Te)
inductive Ot where
  | non | som (e : Te)
inductive Itr where
  | vals (e : Ex) | rng1 (a : Ex) | rng2 (a b : Ex) | enm (e : Ex) | zip (a b : Ex)
inductive Tg where
  | name (i : Nat) | tup (ts : Tgs) | sub (o i : Ex) | fld (tb : List (Nat × Nat)) (f : Str) (o : Ex)
inductive Tgs where
  | nil | cons (t : Tg) (ts : Tgs)
end

abbrev Orc := Nat → List Vl → M Vl
/-- no exception -/
def noex {α : Type} (m : M α) : M α := fun h => match m h with
  | .ok a h' => .ok a h'
  | _ => .no
abbrev Gu := Option (Nat × List Vl)
def chk (g : Gu) : M Unit := match g with
  | none => ret ()
  | some (i, xs) => (rd i).bind fun o => match o with
    | .lst ys => guardB (eqbs ys xs) (ret ())
    | .ro ys => guardB (eqbs ys xs) (ret ())
    | _ => stuck
def many : Nat := 100000
/-- the turns of a comprehension -/
def snocO (acc : List Vl) : Option Vl → List Vl
  | some y => acc ++ [y]
  | none => acc
def clp (g : Gu) (body : Vl → M (Option Vl)) : List Vl → List Vl → M (List Vl)
  | [], acc => (chk g).bind fun _ => ret acc
  | v :: vs, acc => (chk g).bind fun _ => (noex (body v)).bind fun o => clp g body vs (snocO acc o)
def dcp (g : Gu) (body : Vl → M (Option (Vl × Vl))) : List Vl → Ob → M Ob
  | [], d => (chk g).bind fun _ => ret d
  | v :: vs, d => (chk g).bind fun _ => (noex (body v)).bind fun o => match o with
    | none => dcp g body vs d
    | some p => (dPut d p.1 p.2).bind fun d' => dcp g body vs d'
/-- turns for their own sake -/
def lp (g : Gu) (body : Vl → M Unit) : List Vl → M Unit
  | [] => chk g
  | v :: vs => (chk g).bind fun _ => (noex (body v)).bind fun _ => lp g body vs
def appV (r y : Vl) : M Unit := match r with
  | .ref i => (rd i).bind fun o => match o with
    | .lst xs => guardB (Nat.blt xs.length line) (wr i (.lst (xs ++ [y])))
    | _ => stuck
  | _ => stuck
def walked : Vl → M (List Vl × Gu)
  | .tup xs => ret (xs, none)
  | .kt xs => ret (xs, none)
  | .ref i => (rd i).bind fun o => match o with
    | .lst xs => ret (xs, some (i, xs))
    | .ro xs => ret (xs, some (i, xs))
    | _ => stuck
  | _ => stuck
def numb (n : Nat) (xs : List Vl) : List Vl := match xs with
  | [] => []
  | x :: xs => .tup [.int n, x] :: numb (n + 1) xs
def zipA : List Vl → List Vl → List Vl
  | x :: xs, y :: ys => .tup [x, y] :: zipA xs ys
  | _, _ => []
def intM : Vl → M Int
  | .int i => ret i
  | _ => stuck
def boolM : Vl → M Bool
  | .bl b => ret b
  | _ => stuck
def tupM : Vl → M (List Vl)
  | .tup xs => ret xs
  | .kt xs => ret xs
  | _ => stuck
def revV : Vl → M Vl
  | .ref i => (rd i).bind fun o => match o with
    | .lst xs => alloc (.lst xs.reverse)
    | _ => stuck
  | _ => stuck
def zipV : Vl → Vl → M (List Vl × Gu)
  | .tup xs, .tup ys => ret (zipA xs ys, none)
  | _, _ => stuck
def getS (σ : Sg) (i : Nat) : M Vl := match σ[i]? with
  | some (some v) => ret v
  | _ => stuck
def slotA (tb : List (Nat × Nat)) (c : Nat) : Option Nat := (tb.find? fun p => p.1 == c).map (·.2)
def fldV (tb : List (Nat × Nat)) : Vl → M Vl
  | .ref i => (rd i).bind fun o => match o with
    | .sl c xs => (optM (slotA tb c)).bind fun j => getS xs j
    | _ => stuck
  | _ => stuck
def putSA (i : Nat) (y : Vl) (vs : List (Option Vl)) : List (Option Vl) := (vs ++ List.replicate (i + 1 - vs.length) none).set i (some y)
def setF (tb : List (Nat × Nat)) (x v : Vl) : M Unit := match x with
  | .ref i => (rd i).bind fun o => match o with
    | .sl c xs => (optM (slotA tb c)).bind fun j => wr i (.sl c (putSA j v xs))
    | _ => stuck
  | _ => stuck
def chkC (c : Nat) : Vl → M Unit
  | .ref i => (rd i).bind fun o => match o with
    | .sl c' _ => guardB (c' == c) (ret ())
    | _ => stuck
  | _ => stuck
def nonM : Vl → M Unit
  | .non => ret ()
  | _ => stuck
def lenT : Tgs → Nat
  | .nil => 0
  | .cons _ ts => lenT ts + 1
def accD (ft : Vl → Sg → M Sg) (ff : Sg → M Bool) (fk fv : Sg → M Vl) (σ : Sg) (v : Vl) : M (Option (Vl × Vl)) :=
  (ft v σ).bind fun σ1 => (ff σ1).bind fun k => if k = true then (fk σ1).bind fun y => (fv σ1).bind fun z => ret (some (y, z)) else ret none
def dict0 : Bool → Ob
  | true => .dT []
  | false => .dK []
/-- the turns of the second clause -/
def inB (ft1 : Vl → Sg → M Sg) (ff1 : Sg → M Bool) (emit : Sg → M Unit) (own1 : List Nat) (σ1 : Sg) (v : Vl) : M Unit :=
  (ft1 v (wipeA σ1 own1)).bind fun σ2 => (ff1 σ2).bind fun k => if k = true then emit σ2 else ret ()
def outB (ft : Vl → Sg → M Sg) (ff : Sg → M Bool) (fi1 : Sg → M (List Vl × Gu)) (ft1 : Vl → Sg → M Sg) (ff1 : Sg → M Bool) (emit : Sg → M Unit) (own own1 : List Nat) (σ : Sg) (v : Vl) : M Unit :=
  (ft v (wipeA σ own)).bind fun σ1 => (ff σ1).bind fun k => if k = true then (fi1 σ1).bind fun p => lp p.2 (inB ft1 ff1 emit own1 σ1) p.1 else ret ()
def putV (r k x : Vl) : M Unit := match r with
  | .ref i => (rd i).bind fun o => match o with
    | .dK ks => (dPut (.dK ks) k x).bind fun o' => wr i o'
    | .dT ks => (dPut (.dT ks) k x).bind fun o' => wr i o'
    | _ => stuck
  | _ => stuck
def itemsA (ks : List (Key × Vl)) : List Vl := ks.map fun p => .tup [ofKey p.1, p.2]
def srtI : Vl → M Vl
  | .ref i => (rd i).bind fun o => match o with
    | .dK ks => srtV (itemsA ks)
    | _ => stuck
  | _ => stuck
/-! ### a call that sees its arguments alone -/
mutual
def rfree : Vl → Bool
  | .tup xs => rfrees xs
  | .kt xs => rfrees xs
  | .ref _ => false
  | _ => true
def rfrees : List Vl → Bool
  | [] => true
  | x :: xs => rfree x && rfrees xs
end
def obFree : Ob → Bool
  | .lst xs => rfrees xs
  | .ro xs => rfrees xs
  | .dK ks => rfrees (ks.map (·.2))
  | .dT ks => rfrees (ks.map (·.2))
  | .rng _ _ => true
  | .sl _ _ => false
def obEq : Ob → Ob → Bool
  | .lst xs, .lst ys => eqbs xs ys
  | .ro xs, .ro ys => eqbs xs ys
  | .dK xs, .dK ys => decide (xs.map (·.1) = ys.map (·.1)) && eqbs (xs.map (·.2)) (ys.map (·.2))
  | .dT xs, .dT ys => decide (xs.map (·.1) = ys.map (·.1)) && eqbs (xs.map (·.2)) (ys.map (·.2))
  | .rng a b, .rng c d => decide (a = c) && decide (b = d)
  | _, _ => false
def sameP : AH → AH → Bool
  | [], _ => true
  | o :: os, h => match h with
    | o' :: os' => obEq o o' && sameP os os'
    | [] => false
def refsOf : List Vl → List Nat
  | [] => []
  | v :: vs => match v with
    | .ref i => if decide (i ∈ refsOf vs) then refsOf vs else i :: refsOf vs
    | _ => refsOf vs
def fetch (h : AH) : List Nat → Option AH
  | [] => some []
  | i :: is => match h[i]? with
    | some o => if obFree o then (fetch h is).map (o :: ·) else none
    | none => none
def placeOf (i : Nat) : List Nat → Option Nat
  | [] => none
  | j :: js => if Nat.beq i j then some 0 else (placeOf i js).map (· + 1)
def renm (acc : List Nat) : List Vl → Option (List Vl)
  | [] => some []
  | v :: vs => match v with
    | .ref i => match placeOf i acc with
      | some k => (renm acc vs).map (.ref k :: ·)
      | none => none
    | v => if rfree v then (renm acc vs).map (v :: ·) else none
/-- what the caller gets -/
def back (n : Nat) (h h' : AH) (v : Vl) : Rs Vl := if rfree v then .ok v h else match v with
  | .ref j => match h'[j]? with
    | some (.lst xs) => if Nat.ble n j && rfrees xs then .ok (.ref h.length) (h ++ [.lst xs]) else .no
    | _ => .no
  | _ => .no
def frame (g : List Vl → M Vl) (vs : List Vl) : M Vl := fun h => match fetch h (refsOf vs), renm (refsOf vs) vs with
  | some sub, some ws => match g ws sub with
    | .ok v h' => if sameP sub h' then back sub.length h h' v else .no
    | .ex c p h' => if sameP sub h' && rfrees p then .ex c p h else .no
    | .no => .no
  | _, _ => .no
/-- what the callee has changed is written back -/
def wback : AH → List Nat → AH → Option AH
  | h, [], _ => some h
  | h, i :: is, h' => match h' with
    | o :: os => if obFree o then wback (h.set i o) is os else none
    | [] => none
def frameW (g : List Vl → M Vl) (vs : List Vl) : M Vl := fun h => match fetch h (refsOf vs), renm (refsOf vs) vs with
  | some sub, some ws => match g ws sub with
    | .ok v h' => match wback h (refsOf vs) h' with
      | some h2 => back sub.length h2 h' v
      | none => .no
    | _ => .no
  | _, _ => .no
def fnM (m : Nat) : Vl → M Nat
  | .fn f => guardB (Nat.blt f m) (ret f)
  | _ => stuck
/-! ### a word for what is raised -/
def wordA : List (Nat × Str × Bool) → Nat → List Vl → Option Str
  | [], _, _ => none
  | (c, x, b) :: ws, k, p => if Nat.beq c k then (match b, p with
      | false, [] => some x
      | true, [.tup [.str z]] => (match Nat.ble (PyData.tuple [.str z]).shown.length 1000 && Nat.ble x.length 1000 with
        | true => some (x ++ (PyData.tuple [.str z]).shown)
        | false => none)
      | _, _ => none) else wordA ws k p
def worded (ws : List (Nat × Str × Bool)) (fine : Str) (m : M Vl) : M Vl := fun h => match m h with
  | .ok _ h' => .ok (.str fine) h'
  | .ex c p h' => match wordA ws c p with
    | some x => .ok (.str x) h'
    | none => .no
  | .no => .no
mutual
def evE (cf : Orc) : Ex → Sg → M Vl
  | .dead, _ => stuck
  | .var i, σ => getS σ i
  | .int i, _ => ret (.int i)
  | .str x, _ => ret (.str x)
  | .bl b, _ => ret (.bl b)
  | .non, _ => ret .non
  | .glob _ v, _ => ret v
  | .fnv f, _ => ret (.fn f)
  | .tup es, σ => (evEs cf es σ).bind fun vs => guardB (Nat.ble vs.length line) (ret (.tup vs))
  | .lst es, σ => (evEs cf es σ).bind fun vs => guardB (Nat.ble vs.length line) (alloc (.lst vs))
  | .dK, _ => alloc (.dK [])
  | .dT, _ => alloc (.dT [])
  | .bin op a b, σ => (evE cf a σ).bind fun x => (evE cf b σ).bind fun y => bop op x y
  | .neg a, σ => (evE cf a σ).bind fun x => (intM x).bind fun i => ret (.int (-i))
  | .cmp op a b, σ => (evE cf a σ).bind fun x => (evE cf b σ).bind fun y => cop op x y
  | .chn p q a b c, σ => (evE cf a σ).bind fun x => (evE cf b σ).bind fun y => (cop p x y).bind fun z => (boolM z).bind fun k => if k = true then (evE cf c σ).bind fun w => cop q y w else ret (.bl false)
  | .and_ a b, σ => (evE cf a σ).bind fun x => (tru x).bind fun k => if k = true then evE cf b σ else ret x
  | .or_ a b, σ => (evE cf a σ).bind fun x => (tru x).bind fun k => if k = true then ret x else evE cf b σ
  | .not_ a, σ => (evE cf a σ).bind fun x => (tru x).bind fun k => ret (.bl (!k))
  | .ite_ c a b, σ => (evB cf c σ).bind fun k => if k = true then evE cf a σ else evE cf b σ
  | .isi a t, σ => (evE cf a σ).bind fun x => (isTy t x).bind fun k => ret (.bl k)
  | .call f es, σ => (evEs cf es σ).bind fun vs => cf f vs
  | .blt b es, σ => (evEs cf es σ).bind fun vs => blt b vs
  | .mth m o es, σ => (evE cf o σ).bind fun x => (chkT m x).bind fun _ => (evEs cf es σ).bind fun vs => mth m x vs
  | .ix a i, σ => (evE cf a σ).bind fun x => (evE cf i σ).bind fun y => ixV x y
  | .slc a lo hi, σ => (evE cf a σ).bind fun x => (evO cf lo σ).bind fun l => (evO cf hi σ).bind fun h => slcV x l h
  | .rvs a, σ => (evE cf a σ).bind fun x => revV x
  | .lc own tg it ifs e, σ => (evI cf it σ).bind fun p => guardB (Nat.ble p.1.length line) ((clp p.2 (fun v => (evT cf tg v (wipeA σ own)).bind fun σ1 => (evF cf ifs σ1).bind fun k => if k = true then (evE cf e σ1).bind fun y => ret (some y) else ret none) p.1 []).bind fun acc => alloc (.lst acc))
  | .lc2 own own1 tg it ifs tg1 it1 ifs1 e, σ => (evI cf it σ).bind fun p => (alloc (.lst [])).bind fun r => (lp p.2 (outB (evT cf tg) (evF cf ifs) (evI cf it1) (evT cf tg1) (evF cf ifs1) (fun σ2 => (evE cf e σ2).bind fun y => appV r y) own own1 σ) p.1).bind fun _ => ret r
  | .dc tb own tg it ifs k v, σ => (evI cf it σ).bind fun p => (dcp p.2 (accD (evT cf tg) (evF cf ifs) (evE cf k) (evE cf v) (wipeA σ own)) p.1 (dict0 tb)).bind fun d => alloc d
  | .dc2 tb own own1 tg it ifs tg1 it1 ifs1 k v, σ => (evI cf it σ).bind fun p => (alloc (dict0 tb)).bind fun r => (lp p.2 (outB (evT cf tg) (evF cf ifs) (evI cf it1) (evT cf tg1) (evF cf ifs1) (fun σ2 => (evE cf k σ2).bind fun y => (evE cf v σ2).bind fun z => putV r y z) own own1 σ) p.1).bind fun _ => ret r
  | .srtI o, σ => (evE cf o σ).bind fun x => srtI x
  | .fld tb _ o, σ => (evE cf o σ).bind fun x => fldV tb x
  | .mcl c f _ o es, σ => (evE cf o σ).bind fun x => (chkC c x).bind fun _ => (evEs cf es σ).bind fun vs => cf f (x :: vs)
  | .new c f es, σ => (evEs cf es σ).bind fun vs => (alloc (.sl c [])).bind fun r => (cf f (r :: vs)).bind fun z => (nonM z).bind fun _ => ret r
  | .callF f es, σ => (evEs cf es σ).bind fun vs => frame (cf f) vs
  | .calF m i es, σ => (getS σ i).bind fun v => (fnM m v).bind fun f => (evEs cf es σ).bind fun vs => frame (cf f) vs
  | .callG fr f es, σ => (evEs cf es σ).bind fun vs => if fr = true then frameW (cf f) vs else cf f vs
  | .wrd ws fine e, σ => worded ws fine (evE cf e σ)
def evEs (cf : Orc) : Exs → Sg → M (List Vl)
  | .nil, _ => ret []
  | .cons e es, σ => (evE cf e σ).bind fun x => (evEs cf es σ).bind fun xs => ret (x :: xs)
/-- a slice's part -/
def evO (cf : Orc) : Oe → Sg → M (Option Int)
  | .non, _ => ret none
  | .som e, σ => (evE cf e σ).bind fun x => (intM x).bind fun i => ret (some i)
/-- a test -/
def evB (cf : Orc) : Te → Sg → M Bool
  | .val e, σ => (evE cf e σ).bind tru
  | .cmp op a b, σ => (evE cf a σ).bind fun x => (evE cf b σ).bind fun y => (cop op x y).bind boolM
  | .chn p q a b c, σ => (evE cf a σ).bind fun x => (evE cf b σ).bind fun y => (cop p x y).bind fun z => (boolM z).bind fun k => if k = true then (evE cf c σ).bind fun w => (cop q y w).bind boolM else ret false
  | .and_ a b, σ => (evB cf a σ).bind fun k => if k = true then evB cf b σ else ret false
  | .or_ a b, σ => (evB cf a σ).bind fun k => if k = true then ret true else evB cf b σ
  | .not_ a, σ => (evB cf a σ).bind fun k => ret (!k)
/-- a comprehension's test -/
def evF (cf : Orc) : Ot → Sg → M Bool
  | .non, _ => ret true
  | .som e, σ => evB cf e σ
def evI (cf : Orc) : Itr → Sg → M (List Vl × Gu)
  | .vals e, σ => (evE cf e σ).bind walked
  | .rng1 a, σ => (evE cf a σ).bind fun x => (intM x).bind fun j => guardB (near j) (ret (rangeA 0 j.toNat, none))
  | .rng2 a b, σ => (evE cf a σ).bind fun x => (evE cf b σ).bind fun y => (intM x).bind fun i => (intM y).bind fun j => guardB (near i && near j) (ret (rangeA i (j - i).toNat, none))
  | .enm e, σ => (evE cf e σ).bind fun x => (walked x).bind fun p => ret (numb 0 p.1, p.2)
  | .zip a b, σ => (evE cf a σ).bind fun x => (evE cf b σ).bind fun y => zipV x y
def evT (cf : Orc) : Tg → Vl → Sg → M Sg
  | .name i, v, σ => ret (σ.set i (some v))
  | .tup ts, v, σ => (tupM v).bind fun xs => guardB (xs.length == lenT ts) (evTs cf ts xs σ)
  | .sub o i, v, σ => (evE cf o σ).bind fun x => (evE cf i σ).bind fun y => (setV x y v).bind fun _ => ret σ
  | .fld tb _ o, v, σ => (evE cf o σ).bind fun x => (setF tb x v).bind fun _ => ret σ
def evTs (cf : Orc) : Tgs → List Vl → Sg → M Sg
  | .nil, vs, σ => guardB vs.isEmpty (ret σ)
  | .cons t ts, vs, σ => match vs with
    | v :: vs => (evT cf t v σ).bind fun σ1 => evTs cf ts vs σ1
    | [] => stuck
end

/-! ### statements -/
mutual
inductive Sx where
  | dead
  | expr (e : Ex) | asg (t : Tg) (e : Ex) | par (i j : Nat) (a b : Ex) | aug (i : Nat) (op : Bop) (e : Ex) | augS (o i : Ex) (op : Bop) (e : Ex)
  | ret (e : Ex) | ret0 | if_ (c : Te) (a b : Sxs) | for_ (t : Tg) (it : Itr) (b : Sxs) | while_ (c : Te) (b : Sxs)
  | raise (c : Nat) (e : Exs) | pass | brk | cont
inductive Sxs where
  | nil | cons (s : Sx) (ss : Sxs)
end
inductive Fl where
  | nx | rt (v : Vl) | bk | ct
def flp (g : Gu) (body : Vl → Sg → M (Fl × Sg)) : List Vl → Sg → M (Fl × Sg)
  | [], σ => (chk g).bind fun _ => ret (.nx, σ)
  | v :: vs, σ => (chk g).bind fun _ => (body v σ).bind fun p => match p.1 with
    | .nx => flp g body vs p.2
    | .ct => flp g body vs p.2
    | .bk => ret (.nx, p.2)
    | .rt r => ret (.rt r, p.2)
def wlp (c : Sg → M Bool) (body : Sg → M (Fl × Sg)) : Nat → Sg → M (Fl × Sg)
  | 0, _ => stuck
  | n + 1, σ => (c σ).bind fun k => if k = true then (body σ).bind fun p => match p.1 with
      | .nx => wlp c body n p.2
      | .ct => wlp c body n p.2
      | .bk => ret (.nx, p.2)
      | .rt r => ret (.rt r, p.2)
    else ret (.nx, σ)
def getV : Vl → Vl → M Vl
  | .ref i, v => ixV (.ref i) v
  | _, _ => stuck
def iop (op : Bop) : Vl → Vl → M Vl := match op with
  | .add => intV (fun _ _ => true) (fun i j => i + j)
  | .mul => intV (fun i j => small 60 i || small 60 j) (fun i j => i * j)
  | .sub => intV (fun _ _ => true) (fun i j => i - j)
  | _ => fun _ _ => stuck
mutual
def evS (cf : Orc) : Sx → Sg → M (Fl × Sg)
  | .dead, _ => stuck
  | .expr e, σ => (evE cf e σ).bind fun _ => ret (.nx, σ)
  | .asg t e, σ => (evE cf e σ).bind fun x => (evT cf t x σ).bind fun σ1 => ret (.nx, σ1)
  | .par i j a b, σ => (evE cf a σ).bind fun x => (evE cf b σ).bind fun y => ret (.nx, (σ.set i (some x)).set j (some y))
  | .aug i op e, σ => (getS σ i).bind fun x => (evE cf e σ).bind fun y => (iop op x y).bind fun z => ret (.nx, σ.set i (some z))
  | .augS o i op e, σ => (evE cf o σ).bind fun a => (evE cf i σ).bind fun b => (getV a b).bind fun x => (evE cf e σ).bind fun y => (iop op x y).bind fun z => (setV a b z).bind fun _ => ret (.nx, σ)
  | .ret e, σ => (evE cf e σ).bind fun x => ret (.rt x, σ)
  | .ret0, σ => ret (.rt .non, σ)
  | .if_ c a b, σ => (evB cf c σ).bind fun k => if k = true then evSs cf a σ else evSs cf b σ
  | .for_ t it b, σ => (evI cf it σ).bind fun p => flp p.2 (fun v σ1 => (evT cf t v σ1).bind fun σ2 => evSs cf b σ2) p.1 σ
  | .while_ c b, σ => wlp (fun σ1 => evB cf c σ1) (fun σ1 => evSs cf b σ1) many σ
  | .raise c es, σ => (evEs cf es σ).bind fun vs => raise c vs
  | .pass, σ => ret (.nx, σ)
  | .brk, σ => ret (.bk, σ)
  | .cont, σ => ret (.ct, σ)
def evSs (cf : Orc) : Sxs → Sg → M (Fl × Sg)
  | .nil, σ => ret (.nx, σ)
  | .cons s ss, σ => (evS cf s σ).bind fun p => match p.1 with
    | .nx => evSs cf ss p.2
    | f => ret (f, p.2)
end
structure Fn where
  name : Str
  glo : Bool
  gd : Bool
  ar : Nat
  N : List Str
  body : Sxs
def entry (n : Nat) (vs : List Vl) : Sg := vs.map some ++ List.replicate (n - vs.length) none
def callN (T : List Fn) : Nat → Orc
  | 0, _, _ => stuck
  | n + 1, f, vs => match T[f]? with
    | none => stuck
    | some F => guardB (vs.length == F.ar) ((evSs (callN T n) F.body (entry F.N.length vs)).bind fun p => match p.1 with
      | .nx => ret .non
      | .rt v => ret v
      | _ => stuck)
end Ip

set_option Elab.async false
set_option linter.all false
set_option maxRecDepth 100000
set_option maxHeartbeats 4000000
namespace Ip
open PySem PySem.Spec PyProof.Rows L2

/-! ### what is owed behind a run -/
def ExcR (L : Lw) (ρ : List Addr) (H : Hp) (c : Nat) (p : List Vl) (cls : Value) (d : Option Addr) : Prop := cls = .ref (L.ca c) ∧ match p with
  | [] => d = none
  | [x] => ∃ (a : Addr) (v : V), d = some a ∧ H a = some (.xd [(L.xf c, v)]) ∧ Rep L ρ H x v
  | _ => False
def Post {α : Type} (L : Lw) (E : XK) (ρ : List Addr) (H : Hp) (R : Rs α) (Φ : α → AH → List Addr → Hp → Prop) : Prop := match R with
  | .ok a ah' => ∀ ρ' H', Step ρ H ρ' H' → Sim L ρ' H' ah' → Φ a ah' ρ' H'
  | .ex c p ah' => ∀ ρ' H' cls d, Step ρ H ρ' H' → Sim L ρ' H' ah' → ExcR L ρ' H' c p cls d → E cls d H'
  | .no => False
/-- a value's use -/
abbrev VQ (L : Lw) (Q : VK) : Vl → AH → List Addr → Hp → Prop := fun v' _ ρ' H' => ∀ v, Rep L ρ' H' v' v → Q v H'
section
variable {L : Lw} {E : XK} {ρ ρ' : List Addr} {H H' : Hp} {ah ah' : AH} {α β : Type} {R : Rs α} {Φ Ψ : α → AH → List Addr → Hp → Prop} {Θ : β → AH → List Addr → Hp → Prop}
theorem Post.imp (h : Post L E ρ H R Φ) (k : ∀ a ah' ρ' H', Step ρ H ρ' H' → Sim L ρ' H' ah' → Φ a ah' ρ' H' → Ψ a ah' ρ' H') : Post L E ρ H R Ψ := by
  cases R with
  | ok a ah' => exact fun ρ' H' st S => k a ah' ρ' H' st S (h ρ' H' st S)
  | ex c p ah' => exact h
  | no => exact h
theorem Post.move (h : Post L E ρ H R Φ) (S : Sim L ρ' H' ah') (st : Step ρ H ρ' H') : Post L E ρ' H' R Φ := by
  cases R with
  | ok a ah' => exact fun ρ2 H2 st2 S2 => h ρ2 H2 (st.trans S st2) S2
  | ex c p ah' => exact fun ρ2 H2 cls d st2 S2 => h ρ2 H2 cls d (st.trans S st2) S2
  | no => exact h
theorem Post.bind {m : M α} {f : α → M β} (h : Post L E ρ H ((M.bind m f) ah) Θ) : Post L E ρ H (m ah) (fun a ah1 ρ1 H1 => Post L E ρ1 H1 (f a ah1) Θ) := by
  unfold M.bind at h
  cases q : m ah with
  | ok a ah1 =>
    rw [q] at h
    exact fun ρ1 H1 st S => Post.move h S st
  | ex c p ah1 => rw [q] at h; exact h
  | no => rw [q] at h; exact h
theorem Post.ret {a : α} (h : Post L E ρ H (ret a ah) Φ) (S : Sim L ρ H ah) : Φ a ah ρ H := h ρ H Step.refl S
theorem Post.stuck {P : Prop} (h : Post L E ρ H ((stuck : M α) ah) Φ) : P := False.elim h
theorem Post.guard {b : Bool} {m : M α} (h : Post L E ρ H (guardB b m ah) Φ) : b = true ∧ Post L E ρ H (m ah) Φ := by
  unfold guardB at h
  cases b with
  | true => exact ⟨rfl, h⟩
  | false => exact False.elim h
theorem Post.bret {a : α} {f : α → M β} (h : Post L E ρ H ((M.bind (Ip.ret a) f) ah) Θ) : Post L E ρ H (f a ah) Θ := h
theorem Post.rd {i : Nat} {a : Addr} {f : Ob → M β} (S : Sim L ρ H ah) (e : ρ[i]? = some a) (h : Post L E ρ H ((M.bind (Ip.rd i) f) ah) Θ) : ∃ o, ah[i]? = some o ∧ ObR L ρ H o a ∧ Post L E ρ H (f o ah) Θ := by
  have hlt : i < ah.length := by rw [← S.len]; exact (List.getElem?_eq_some_iff.mp e).1
  have e2 : ah[i]? = some ah[i] := List.getElem?_eq_getElem hlt
  refine ⟨ah[i], e2, S.ob i a _ e e2, ?_⟩
  unfold M.bind Ip.rd at h
  simp only [e2] at h
  exact h
theorem Post.opt {o : Option α} {f : α → M β} (h : Post L E ρ H ((M.bind (optM o) f) ah) Θ) : ∃ a, o = some a ∧ Post L E ρ H (f a ah) Θ := by
  cases o with
  | none => exact False.elim h
  | some a => exact ⟨a, rfl, h⟩
theorem Post.optM {o : Option α} (h : Post L E ρ H (optM o ah) Φ) (S : Sim L ρ H ah) : ∃ a, o = some a ∧ Φ a ah ρ H := by
  cases o with
  | none => exact False.elim h
  | some a => exact ⟨a, rfl, Post.ret h S⟩
/-- a new object gets a number -/
theorem Post.alloc {o : Ob} {ho : HO} {p : Addr} {Φ : Vl → AH → List Addr → Hp → Prop} (h : Post L E ρ H (Ip.alloc o ah) Φ) (S : Sim L ρ H ah) (hp : H p = none) (hb : ∀ (ρ' : List Addr) (H' : Hp), Step ρ H ρ' H' → H' p = some ho → ObR L ρ' H' o p) :
    Φ (.ref ah.length) (ah ++ [o]) (ρ ++ [p]) (upd H p ho) := h _ _ (step_num hp) (S.push hp hb)
theorem Post.newq {o : Ob} {ho : HO} {p : Addr} {Q : VK} (h : Post L E ρ H (Ip.alloc o ah) (VQ L Q)) (S : Sim L ρ H ah) (hp : H p = none) (hb : ∀ (ρ' : List Addr) (H' : Hp), Step ρ H ρ' H' → H' p = some ho → ObR L ρ' H' o p) : Q (.ref p) (upd H p ho) :=
  Post.alloc h S hp hb _ (Rep.last S.len.symm)
theorem Post.newL {xs : List Vl} {vs : List V} {p : Addr} {Q : VK} (h : Post L E ρ H (Ip.alloc (.lst xs) ah) (VQ L Q)) (S : Sim L ρ H ah) (hp : H p = none) (r : Reps L ρ H xs vs) : Q (.ref p) (upd H p (.lst vs)) :=
  Post.newq h S hp fun _ _ st e => .lst e (r.step S st)
/-- a new tuple -/
theorem Post.newT {xs : List Vl} {vs : List V} {p : Addr} {Q : VK} (h : Post L E ρ H (Ip.ret (.tup xs) ah) (VQ L Q)) (S : Sim L ρ H ah) (hp : H p = none) (r : Reps L ρ H xs vs) : Q (.ref p) (upd H p (.tup vs)) :=
  h _ _ (step_new hp) (S.new hp) _ (.tup upd_same (r.step S (step_new hp)))
theorem Post.oldT {v' : Vl} {v : V} {Q : VK} (h : Post L E ρ H (Ip.ret v' ah) (VQ L Q)) (S : Sim L ρ H ah) (r : Rep L ρ H v' v) : Q v H := Post.ret h S _ r
/-- a numbered object is written -/
theorem Post.wr {i : Nat} {a : Addr} {o : Ob} {ho : HO} {f : Unit → M β} (h : Post L E ρ H ((M.bind (Ip.wr i o) f) ah) Θ) (S : Sim L ρ H ah) (e : ρ[i]? = some a) (hb : ∀ H', Step ρ H ρ H' → H' a = some ho → ObR L ρ H' o a) :
    Sim L ρ (upd H a ho) (ah.set i o) ∧ Step ρ H ρ (upd H a ho) ∧ Post L E ρ (upd H a ho) (f () (ah.set i o)) Θ :=
  have S2 := S.set e hb
  ⟨S2, step_set e, Post.move (show Post L E ρ H (f () (ah.set i o)) Θ from h) S2 (step_set e)⟩
theorem Post.wr' {i : Nat} {a : Addr} {o : Ob} {ho : HO} {Φ : Unit → AH → List Addr → Hp → Prop} (h : Post L E ρ H (Ip.wr i o ah) Φ) (S : Sim L ρ H ah) (e : ρ[i]? = some a) (hb : ∀ H', Step ρ H ρ H' → H' a = some ho → ObR L ρ H' o a) :
    Φ () (ah.set i o) ρ (upd H a ho) := h _ _ (step_set e) (S.set e hb)
end

/-! ### the functions of the text, the promise of each -/
def spOf (L : Lw) (cf : Orc) (f : Nat) : Sp := fun vs H Q E => ∃ ρ ah xs, Sim L ρ H ah ∧ Reps L ρ H xs vs ∧ Post L E ρ H (cf f xs ah) (VQ L Q)
/-- a def that is called where no text is being shown -/
structure FnG (P : Program) (w : World) (K : PySem.W.Frag) (mg : Str → Option Value) (base : Heap) (CX : CXT) (k : Nat) (f : Addr) (fd : FuncData) (ps : List Str) (sp : Sp) : Prop where
  len : ∀ vs H Q E, sp vs H Q E → vs.length = ps.length
  run : ∀ (A : Around) (outer : List Env) (s : Shared) (H : Hp) (args : Args) (us : List Value) (vs : List V) (Q : VK) (E : XK), A.guards = some [] → Room k A → Env0 P w K mg base A outer s H →
    BindsTo s fd args (ps.zip us) → Vals vs us → sp vs H Q E → codeAny (model P w) A (.call (.ref f) args) (CR CX outer P w H s Q E) s
structure FnI (L : Lw) (T : List Fn) : Prop where
  mg : ∀ (f : Nat) (F : Fn), T[f]? = some F → F.glo = true → L.mg F.name = some (.ref (L.fa f))
  kp : ∀ (f : Nat) (F : Fn), T[f]? = some F → PySem.W.keepIn L.K (.ref (L.fa f)) = true
  bd : ∀ (f : Nat) (F : Fn), T[f]? = some F → Binds L.K (L.fd f) (F.N.take F.ar) []
/-- where one stands -/
structure Gd (L : Lw) (T : List Fn) (n : Nat) (cf : Orc) (E : XK) (X : Cx) : Prop where
  P : X.prog = L.P
  w : X.w = L.w
  K : X.K = L.K
  mg : X.mg = L.mg
  base : X.base = L.base
  nd : X.N.Nodup
  calm : X.calm = true
  room : Room (4 * n + 1) X.A
  fns : FnI L T
  ok : ∀ (f : Nat) (F : Fn), T[f]? = some F → F.gd = false → FnOk L.P L.w L.K L.mg L.base (L2.CX L.P L.w) (4 * n) (L.fa f) (L.fd f) (F.N.take F.ar) (spOf L cf f)
  okG : ∀ (f : Nat) (F : Fn), T[f]? = some F → F.gd = true → FnG L.P L.w L.K L.mg L.base (L2.CX L.P L.w) (4 * n) (L.fa f) (L.fd f) (F.N.take F.ar) (spOf L cf f)
  hx : Passes (L2.CX L.P L.w) X E

/-! ### operations on values keep what they promise -/
def rD (L : Lw) (E : XK) (f : Vl → Vl → M Vl) : R2 := fun x y H Q => ∃ ρ ah x' y', Sim L ρ H ah ∧ Rep L ρ H x' x ∧ Rep L ρ H y' y ∧ Post L E ρ H (f x' y' ah) (VQ L Q)
def uD {α : Type} (L : Lw) (E : XK) (f : Vl → M α) (U : (α → AH → List Addr → Hp → Prop)) (x : V) (H : Hp) : Prop := ∃ ρ ah x', Sim L ρ H ah ∧ Rep L ρ H x' x ∧ Post L E ρ H (f x' ah) U
section
variable {L : Lw} {T : List Fn} {n : Nat} {cf : Orc} {E : XK} {X : Cx}
theorem Gd.sqT (G : Gd L T n cf E X) {H : Hp} {a : Addr} {vs : List V} (h : SqT L.K H a vs) : SqT X.K H a vs := by rw [G.K]; exact h
theorem Gd.sqL (G : Gd L T n cf E X) {H : Hp} {a : Addr} {vs : List V} (h : H a = some (.lst vs)) : SqL X.K H a vs := .inl (.inl h)
theorem line_eq : line = sizeLine := by decide
theorem ble_line {n : Nat} (h : Nat.ble n line = true) : n ≤ sizeLine := by rw [← line_eq]; exact Nat.le_of_ble_eq_true h
theorem small_lt {n : Nat} {i : Int} (h : small n i = true) : i.natAbs < 2 ^ n := Nat.le_of_ble_eq_true h
theorem add_ok (G : Gd L T n cf E X) : OpR X (binaryOp .Add) (rD L E addV) := by
  intro pins s σ H x y v u Q I rx ry ⟨ρ, ah, x', y', S, hx, hy, P⟩
  cases hx with
  | int i =>
    cases hy with
    | int j => exact op_add pins s σ H _ _ v u Q I rx ry ⟨i, j, rfl, rfl, P.oldT S (.int _)⟩
    | _ => exact False.elim P
  | str a =>
    cases hy with
    | str b =>
      obtain ⟨h1, P⟩ := Post.guard P
      exact op_add_str pins s σ H _ _ v u Q I rx ry ⟨a, b, rfl, rfl, ble_line h1, P.oldT S (.str _)⟩
    | _ => exact False.elim P
  | tup e r =>
    cases hy with
    | tup e2 r2 =>
      obtain ⟨h1, P⟩ := Post.guard P
      have hl := ble_line h1
      rw [r.length, r2.length] at hl
      refine op_catA pins s σ H _ _ v u Q I rx ry ⟨_, _, _, _, rfl, rfl, SqT.of e, SqT.of e2, hl, fun h => ?_, fun _ h => ?_, fun _ _ p hp => P.newT S hp (r.append r2)⟩
      · subst h
        cases r
        exact P.oldT S (.tup e2 r2)
      · subst h
        cases r2
        rw [List.append_nil] at P
        exact P.oldT S (.tup e r)
    | _ => exact False.elim P
  | ref e =>
    cases hy with
    | ref e2 =>
      obtain ⟨o, _, b1, P⟩ := Post.rd S e P
      obtain ⟨o2, _, b2, P⟩ := Post.rd S e2 P
      cases b1 with
      | lst q r =>
        cases b2 with
        | lst q2 r2 =>
          obtain ⟨h1, P⟩ := Post.guard P
          have hl := ble_line h1
          rw [r.length, r2.length] at hl
          exact op_cat pins s σ H _ _ v u Q I rx ry ⟨_, _, _, _, rfl, rfl, q, q2, hl, fun p hp => P.newL S hp (r.append r2)⟩
        | _ => exact False.elim P
      | _ => cases b2 <;> exact False.elim P
    | _ => exact False.elim P
  | _ => cases hy <;> exact False.elim P
theorem Reps.rep {ρ : List Addr} {H : Hp} {xs : List Vl} {vs : List V} (h : Reps L ρ H xs vs) : ∀ k : Nat, Reps L ρ H (List.replicate k xs).flatten (List.replicate k vs).flatten
  | 0 => .nil
  | k + 1 => by
    rw [List.replicate_succ, List.replicate_succ, List.flatten_cons, List.flatten_cons]
    exact h.append (Reps.rep h k)
theorem mul_ok (G : Gd L T n cf E X) : OpR X (binaryOp .Mult) (rD L E mulV) := by
  intro pins s σ H x y v u Q I rx ry ⟨ρ, ah, x', y', S, hx, hy, P⟩
  cases hx with
  | int i =>
    cases hy with
    | int j =>
      obtain ⟨h1, P⟩ := Post.guard P
      obtain ⟨h1, h2⟩ := Bool.and_eq_true_iff.mp h1
      exact op_mulW pins s σ H _ _ v u Q I rx ry ⟨i, j, rfl, rfl, wide_mul (small_lt h1) (small_lt h2) (by decide) (by decide) (by decide), P.oldT S (.int _)⟩
    | _ => exact False.elim P
  | ref e =>
    cases hy with
    | int k =>
      obtain ⟨o, _, b1, P⟩ := Post.rd S e P
      cases b1 with
      | lst q r =>
        obtain ⟨h1, P⟩ := Post.guard P
        obtain ⟨h1, h3⟩ := Bool.and_eq_true_iff.mp h1
        obtain ⟨h1, h2⟩ := Bool.and_eq_true_iff.mp h1
        have hk : 0 ≤ k := of_decide_eq_true h1
        have h3 := Nat.le_of_ble_eq_true h3
        have h2 := ble_line h2
        rw [r.length] at h2
        have h4 : k < 2 ^ 63 := by
          have : line = 16777216 := rfl
          omega
        exact op_rep pins s σ H _ _ v u Q I rx ry ⟨_, k, _, rfl, rfl, q, by omega, h4, h2, fun p hp => P.newL S hp (r.rep _)⟩
      | _ => exact False.elim P
    | _ => exact False.elim P
  | _ => cases hy <;> exact False.elim P
theorem int_ok {f : Value → Value → Sem Value} {c : Int → Int → Bool} {g : Int → Int → Int} {C : Int → Int → Prop} (h : OpR X f (rI C fun i j => .int (g i j))) (hc : ∀ i j, c i j = true → C i j) : OpR X f (rD L E (intV c g)) := by
  intro pins s σ H x y v u Q I rx ry ⟨ρ, ah, x', y', S, hx, hy, P⟩
  cases hx with
  | int i =>
    cases hy with
    | int j =>
      obtain ⟨h1, P⟩ := Post.guard P
      exact h pins s σ H _ _ v u Q I rx ry ⟨i, j, rfl, rfl, hc i j h1, P.oldT S (.int _)⟩
    | _ => exact False.elim P
  | _ => cases hy <;> exact False.elim P
theorem rI_of0 {g : Int → Int → V} {f : Value → Value → Sem Value} (h : OpR X f (rI0 g)) : OpR X f (rI (fun _ _ => True) g) := by
  intro pins s σ H x y v u Q I rx ry ⟨i, j, e1, e2, _, q⟩
  exact h pins s σ H x y v u Q I rx ry ⟨i, j, e1, e2, q⟩
def opOf : Bop → Operator
  | .add => .Add | .sub => .Sub | .mul => .Mult | .fdiv => .FloorDiv | .mod => .Mod | .pow => .Pow | .shl => .LShift | .shr => .RShift | .band => .BitAnd | .bor => .BitOr
theorem pow_c {i j : Int} (h : (decide (0 ≤ j) && decide (j ≤ 1000) && small 60 i) = true) : CPow i j := by
  obtain ⟨h, h3⟩ := Bool.and_eq_true_iff.mp h
  obtain ⟨h1, h2⟩ := Bool.and_eq_true_iff.mp h
  have h1 := of_decide_eq_true h1
  have h2 := of_decide_eq_true h2
  have h3 := small_lt h3
  exact ⟨h1, by omega, Nat.lt_of_lt_of_le h3 (Nat.pow_le_pow_right (by decide) (by decide))⟩
theorem bop_ok (G : Gd L T n cf E X) : ∀ op : Bop, OpR X (binaryOp (opOf op)) (rD L E (bop op))
  | .add => add_ok G
  | .sub => int_ok (rI_of0 op_sub) fun _ _ _ => trivial
  | .mul => mul_ok G
  | .fdiv => int_ok op_fdivW fun i j h => by
    obtain ⟨h1, h2⟩ := Bool.and_eq_true_iff.mp h
    exact wide_div (of_decide_eq_true h1) (small_lt h2) (by decide) (by decide)
  | .mod => int_ok op_mod fun i j h => of_decide_eq_true h
  | .pow => int_ok op_pow fun i j h => pow_c h
  | .shl => int_ok op_shl fun i j h => pow_c h
  | .shr => int_ok op_shr fun i j h => of_decide_eq_true h
  | .band => int_ok (rI_of0 op_and) fun _ _ _ => trivial
  | .bor => int_ok (rI_of0 op_or) fun _ _ _ => trivial
theorem iop_ok : ∀ op : Bop, OpR X (inplaceOp (opOf op)) (rD L E (iop op))
  | .add => int_ok (rI_of0 iop_add) fun _ _ _ => trivial
  | .sub => int_ok (rI_of0 iop_sub) fun _ _ _ => trivial
  | .mul => int_ok iop_mul fun i j h => by
    rcases Bool.or_eq_true_iff.mp h with h | h
    · have := small_lt h
      exact .inl (by omega)
    · have := small_lt h
      exact .inr (by omega)
  | .fdiv | .mod | .pow | .shl | .shr | .band | .bor => by
    intro pins s σ H x y v u Q I rx ry ⟨ρ, ah, x', y', S, hx, hy, P⟩
    exact False.elim P
end
end Ip

set_option Elab.async false
set_option linter.all false
set_option maxRecDepth 100000
set_option maxHeartbeats 4000000
namespace Ip
open PySem PySem.Spec PyProof.Rows L2

section
variable {L : Lw} {ρ ρ' : List Addr} {H H' : Hp} {ah ah' : AH}
/-! ### as data -/
theorem dp_of (S : Sim L ρ H ah) : ∀ (n : Nat) {x : Vl} {v : V} {d : PyData}, Rep L ρ H x v → dat n ah x = some d → Dp L.K H v d := by
  intro n
  induction n with
  | zero => intro x v d r h; simp [dat] at h
  | succ n ih =>
    have all : ∀ {xs : List Vl} {vs : List V} {ds : List PyData}, Reps L ρ H xs vs → datl (dat n ah) xs = some ds → DpAll L.K H vs ds := by
      intro xs
      induction xs with
      | nil => intro vs ds r h; cases r; simp [datl] at h; subst h; exact .nil
      | cons x xs ihx =>
        intro vs ds r h
        cases r with
        | cons a t =>
          rw [datl] at h
          split at h
          · rename_i d' ds' h1 h2
            cases h
            exact .cons (ih a h1) (ihx t h2)
          · cases h
    intro x v d r h
    cases r with
    | non => simp [dat] at h; subst h; exact .non
    | bl b => simp [dat] at h; subst h; exact .bl b
    | int b => simp [dat] at h; subst h; exact .int b
    | str b => simp [dat] at h; subst h; exact .str b
    | tup e r =>
      simp only [dat] at h
      obtain ⟨ds, h1, h2⟩ := Option.map_eq_some_iff.mp h
      subst h2
      exact .tup (SqT.of e) (all r h1)
    | kt e r =>
      simp only [dat] at h
      obtain ⟨ds, h1, h2⟩ := Option.map_eq_some_iff.mp h
      subst h2
      exact .tup (e H) (all r h1)
    | ref e =>
      simp only [dat] at h
      split at h
      · rename_i xs hx
        obtain ⟨ds, h1, h2⟩ := Option.map_eq_some_iff.mp h
        subst h2
        have b := S.ob _ _ _ e hx
        cases b with
        | lst q r => exact .lst (SqL.of q) (all r h1)
      · rename_i xs hx
        obtain ⟨ds, h1, h2⟩ := Option.map_eq_some_iff.mp h
        subst h2
        have b := S.ob _ _ _ e hx
        cases b with
        | ro q r => exact .lst (.inl (.inr ⟨_, q⟩)) (all r h1)
      · cases h
    | fn f => simp [dat] at h
theorem dps_of (S : Sim L ρ H ah) (n : Nat) : ∀ {xs : List Vl} {vs : List V} {ds : List PyData}, Reps L ρ H xs vs → datl (dat n ah) xs = some ds → DpAll L.K H vs ds
  | _, _, _, .nil, h => by simp [datl] at h; subst h; exact .nil
  | _, _, _, .cons a t, h => by
    rw [datl] at h
    split at h
    · rename_i d' ds' h1 h2
      cases h
      exact .cons (dp_of S n a h1) (dps_of S n t h2)
    · cases h
/-! ### whole numbers -/
theorem intsA_of : ∀ {xs : List Vl} {vs : List V} {ns : List Int}, Reps L ρ H xs vs → intsA xs = some ns → vs = ns.map V.int
  | _, _, _, .nil, h => by simp [intsA] at h; subst h; rfl
  | _, _, ns, .cons a b, h => by
    cases a with
    | int i =>
      rw [intsA] at h
      obtain ⟨ms, e, rfl⟩ := Option.map_eq_some_iff.mp h
      rw [intsA_of b e]; rfl
    | _ => simp [intsA] at h
theorem lexI_eq : ∀ a b : List Int, lexI a b = HT.lexLt a b
  | [], [] => rfl
  | [], _ :: _ => rfl
  | _ :: _, [] => rfl
  | x :: xs, y :: ys => by rw [lexI, HT.lexLt_cons, lexI_eq xs ys]
/-! ### flat values -/
theorem flat_of {x : Vl} {v : V} (r : Rep L ρ H x v) (h : flatA x = true) : flatV v = true := by
  cases r <;> first | rfl | (simp [flatA] at h)
theorem flats_of : ∀ {xs : List Vl} {vs : List V}, Reps L ρ H xs vs → xs.all flatA = true → vs.all flatV = true
  | _, _, .nil, _ => rfl
  | _, _, .cons a b, h => by
    rw [List.all_cons, Bool.and_eq_true] at h
    rw [List.all_cons, flat_of a h.1, flats_of b h.2]; rfl
theorem eqV_of {x y : Vl} {v u : V} (rx : Rep L ρ H x v) (ry : Rep L ρ H y u) (hx : flatA x = true) (hy : flatA y = true) : eqV v u = veq x y := by
  cases rx <;> cases ry <;> first | rfl | (simp [flatA] at hx; done) | (simp [flatA] at hy; done) | simp [eqV, veq]
theorem inV_of {x : Vl} {v : V} (rx : Rep L ρ H x v) (hx : flatA x = true) : ∀ {xs : List Vl} {vs : List V}, Reps L ρ H xs vs → xs.all flatA = true → inV v vs = xs.any fun y => veq y x
  | _, _, .nil, _ => rfl
  | _, _, .cons a b, h => by
    rw [List.all_cons, Bool.and_eq_true] at h
    have := inV_of rx hx b h.2
    unfold inV at this ⊢
    rw [List.any_cons, List.any_cons, eqV_of a rx h.1 hx, this]
/-! ### keys -/
theorem key_of_v {x : Vl} {v : V} {k : Key} (r : Rep L ρ H x v) (h : keyOf x = some k) : v = kV k := by
  cases r <;> first | (simp [keyOf] at h; subst h; rfl) | (simp [keyOf] at h)
theorem keys_of_v : ∀ {xs : List Vl} {vs : List V} {ks : List Key}, Reps L ρ H xs vs → keysOf xs = some ks → vs = ks.map kV
  | _, _, _, .nil, h => by simp [keysOf] at h; subst h; rfl
  | _, _, ks, .cons (x := x) (xs := xs) a b, h => by
    rw [keysOf] at h
    cases e1 : keyOf x with
    | none => rw [e1] at h; simp at h
    | some k =>
      cases e2 : keysOf xs with
      | none => rw [e1, e2] at h; simp at h
      | some ks' =>
        rw [e1, e2] at h
        simp at h; subst h
        rw [key_of_v a e1, keys_of_v b e2]; rfl
theorem rep_ofKey (k : Key) : Rep L ρ H (ofKey k) (kV k) := by
  cases k with
  | inl i => exact .int i
  | inr x => exact .str x
theorem reps_ofKeys : ∀ ks : List Key, Reps L ρ H (ks.map ofKey) (ks.map kV)
  | [] => .nil
  | k :: ks => .cons (rep_ofKey k) (reps_ofKeys ks)
section
variable {κ : Type} [DecidableEq κ]
theorem KR.val : ∀ {ks : List (κ × Vl)} {vs : List (κ × V)} (k : κ), KR L ρ H ks vs → (∀ x, valA ks k = some x → ∃ v, valV vs k = some v ∧ Rep L ρ H x v) ∧ (valA ks k = none → valV vs k = none)
  | _, _, k, .nil => ⟨fun x h => by simp [valA] at h, fun _ => rfl⟩
  | _, _, k, .cons (a := p) (b := q) (l₁ := ks) (l₂ := vs) r t => by
    have ih := KR.val k t
    obtain ⟨e, r⟩ := r
    by_cases hk : p.1 = k
    · have hv : valA (p :: ks) k = some p.2 := by simp [valA, hk]
      have hq : valV (q :: vs) k = some q.2 := valV_pos (by rw [← e]; exact hk)
      rw [hv, hq]
      exact ⟨fun x h => by cases h; exact ⟨_, rfl, r⟩, fun h => by cases h⟩
    · have hv : valA (p :: ks) k = valA ks k := by simp [valA, hk]
      have hq : valV (q :: vs) k = valV vs k := valV_neg (by rw [← e]; exact hk)
      rw [hv, hq]
      exact ih
theorem KR.any : ∀ {ks : List (κ × Vl)} {vs : List (κ × V)} (k : κ), KR L ρ H ks vs → (ks.any fun p => decide (p.1 = k)) = vs.any fun p => decide (p.1 = k)
  | _, _, k, .nil => rfl
  | _, _, k, .cons r t => by rw [List.any_cons, List.any_cons, KR.any k t, r.1]
theorem KR.put {x : Vl} {v : V} (k : κ) (rx : Rep L ρ H x v) {ks : List (κ × Vl)} {vs : List (κ × V)} (r : KR L ρ H ks vs) : KR L ρ H (putA ks k x) (putK vs k v) := by
  have hm : ∀ {ks : List (κ × Vl)} {vs : List (κ × V)}, KR L ρ H ks vs → KR L ρ H (ks.map fun p => if p.1 = k then (p.1, x) else p) (vs.map fun p => if p.1 = k then (p.1, v) else p) := by
    intro ks vs r
    induction r with
    | nil => exact .nil
    | cons a t ih =>
      refine .cons ?_ ih
      obtain ⟨e, ra⟩ := a
      dsimp only
      rw [e]
      split
      · exact ⟨rfl, rx⟩
      · exact ⟨e, ra⟩
  have ha : ∀ {ks : List (κ × Vl)} {vs : List (κ × V)}, KR L ρ H ks vs → KR L ρ H (ks ++ [(k, x)]) (vs ++ [(k, v)]) := by
    intro ks vs r
    induction r with
    | nil => exact .cons ⟨rfl, rx⟩ .nil
    | cons a t ih => exact .cons a ih
  unfold putA putK
  rw [r.any k]
  split
  · exact hm r
  · exact ha r
theorem KR.drop (k : κ) {ks : List (κ × Vl)} {vs : List (κ × V)} (r : KR L ρ H ks vs) : KR L ρ H (dropA ks k) (dropK vs k) := by
  unfold dropA dropK
  induction r with
  | nil => exact .nil
  | cons a t ih =>
    rw [List.filter_cons, List.filter_cons, a.1]
    split
    · exact .cons a ih
    · exact ih
theorem KR.length {ks : List (κ × Vl)} {vs : List (κ × V)} (r : KR L ρ H ks vs) : ks.length = vs.length := Paired.length r
end
end
section
variable {L : Lw} {T : List Fn} {n : Nat} {cf : Orc} {E : XK} {X : Cx} {ρ : List Addr} {H : Hp} {ah : AH} {α β : Type} {Θ : β → AH → List Addr → Hp → Prop}
theorem Gd.u64 (G : Gd L T n cf E X) : X.A.units + 64 < cLine := G.room.units
theorem Gd.u1 (G : Gd L T n cf E X) : X.A.units + 1 < cLine := by have := G.room.units; omega
theorem Gd.u0 (G : Gd L T n cf E X) : X.A.units < cLine := by have := G.room.units; omega
def RO2 (L : Lw) (ρ : List Addr) (H : Hp) : Option Vl → Option V → Prop
  | some x, some v => Rep L ρ H x v
  | none, none => True
  | _, _ => False
theorem RO2.some {r : Option Vl} {r' : Option V} (h : RO2 L ρ H r r') : r.isSome = r'.isSome := by
  cases r <;> cases r' <;> first | rfl | exact False.elim h
theorem KR.ro {κ : Type} [DecidableEq κ] {ks : List (κ × Vl)} {vs : List (κ × V)} (r : KR L ρ H ks vs) (k : κ) : RO2 L ρ H (valA ks k) (valV vs k) := by
  cases h : valA ks k with
  | none => rw [(r.val k).2 h]; trivial
  | some x =>
    obtain ⟨v, e, rv⟩ := (r.val k).1 x h
    rw [e]; exact rv
theorem dget_ok {o : Ob} {a : Addr} {x' : Vl} {x : V} {Ψ : Option Vl → AH → List Addr → Hp → Prop} (S : Sim L ρ H ah) (b : ObR L ρ H o a) (hx : Rep L ρ H x' x) (P : Post L E ρ H (dGet o x' ah) Ψ) :
    ∃ r r', DGet H a x r' ∧ RO2 L ρ H r r' ∧ Ψ r ah ρ H := by
  cases b with
  | dK q r =>
    unfold dGet at P
    cases hk : keyOf x' with
    | none => simp only [hk] at P; exact False.elim P
    | some k =>
      simp only [hk] at P
      exact ⟨_, _, .inl ⟨_, k, .inl q, key_of_v hx hk, rfl⟩, r.ro k, P.ret S⟩
  | dT q r =>
    cases hx with
    | @tup zs _ _ e2 r2 =>
      unfold dGet at P
      cases hk : keysOf zs with
      | none => simp only [hk] at P; exact False.elim P
      | some k =>
        simp only [hk] at P
        rw [keys_of_v r2 hk] at e2
        exact ⟨_, _, .inr ⟨_, k, _, .inl q, rfl, e2, rfl⟩, r.ro k, P.ret S⟩
    | _ => exact False.elim P
  | _ => exact False.elim P
/-- == by values -/
theorem eqB_ok (G : Gd L T n cf E X) (neg : Bool) : OpR X (compareOp (if neg then .NotEq else .Eq)) (rD L E fun x y => (eqV_ x y).bind fun b => ret (.bl (if neg then !b else b))) := by
  intro pins s σ H x y v u Q I rx ry ⟨ρ, ah, x', y', S, hx, hy, P⟩
  have P := Post.bind P
  unfold eqV_ at P
  cases h1 : dat 60 ah x' with
  | none => simp only [h1] at P; exact False.elim P
  | some d =>
    cases h2 : dat 60 ah y' with
    | none => simp only [h1, h2] at P; exact False.elim P
    | some e =>
      simp only [h1, h2] at P
      split at P
      · rename_i hs
        obtain ⟨sd, se⟩ := Bool.and_eq_true_iff.mp hs
        have hd : Dp X.K H x d := by rw [G.K]; exact dp_of S 60 hx h1
        have he : Dp X.K H y e := by rw [G.K]; exact dp_of S 60 hy h2
        have q : Q (.bl (if neg then !PyData.eqv d e else PyData.eqv d e)) H := (Post.ret P S).oldT S (.bl _)
        cases neg with
        | true => exact op_neD G.u64 pins s σ H x y v u Q I rx ry ⟨d, e, hd, he, sd, se, q⟩
        | false => exact op_eqD G.u64 pins s σ H x y v u Q I rx ry ⟨d, e, hd, he, sd, se, q⟩
      · exact False.elim P
theorem lt_ok (G : Gd L T n cf E X) : OpR X (compareOp .Lt) (rD L E fun x y => (optM (ltV x y)).bind fun b => ret (.bl b)) := by
  intro pins s σ H x y v u Q I rx ry ⟨ρ, ah, x', y', S, hx, hy, P⟩
  obtain ⟨b, hb, P⟩ := Post.opt P
  cases hx with
  | int i =>
    cases hy with
    | int j =>
      simp only [ltV, Option.some.injEq] at hb; subst hb
      exact op_lt pins s σ H _ _ v u Q I rx ry ⟨i, j, rfl, rfl, P.oldT S (.bl _)⟩
    | _ => simp [ltV] at hb
  | str i =>
    cases hy with
    | str j =>
      simp only [ltV, Option.some.injEq] at hb; subst hb
      exact op_lt_str pins s σ H _ _ v u Q I rx ry ⟨i, j, rfl, rfl, P.oldT S (.bl _)⟩
    | _ => simp [ltV] at hb
  | tup e r =>
    cases hy with
    | tup e2 r2 =>
      rw [ltV] at hb
      split at hb
      · rename_i a c h1 h2
        simp only [Option.some.injEq] at hb; subst hb
        rw [intsA_of r h1] at e
        rw [intsA_of r2 h2] at e2
        exact op_ltT G.u0 pins s σ H _ _ v u Q I rx ry ⟨_, _, a, c, rfl, rfl, SqT.of e, SqT.of e2, by rw [← lexI_eq]; exact P.oldT S (.bl _)⟩
      · cases hb
    | _ => simp [ltV] at hb
  | _ => cases hy <;> simp [ltV] at hb
theorem in_core (G : Gd L T n cf E X) (neg : Bool) : OpR X (compareOp (if neg then .NotIn else .In)) (rD L E fun x y => (inV_ x y).bind fun b => ret (.bl (if neg then !b else b))) := by
  intro pins s σ H x y v u Q I rx ry ⟨ρ, ah, x', y', S, hx, hy, P⟩
  have seq : ∀ {xs : List Vl} {vs : List V} {p : Addr}, y = .ref p → (SqL X.K H p vs ∨ SqT X.K H p vs) → Reps L ρ H xs vs → Post L E ρ H (((seqIn x' xs).bind fun b => ret (.bl (if neg then !b else b))) ah) (VQ L Q) →
      wpAny (model X.prog X.w) X.A (compareOp (if neg then .NotIn else .In) v u) (L2.EP X pins σ Q) X.xe s := by
    intro xs vs p ey hs r P
    have P1 := Post.bind P
    obtain ⟨h, P1⟩ := Post.guard P1
    obtain ⟨h1, h2⟩ := Bool.and_eq_true_iff.mp h
    have P2 := (P1.ret S).oldT S (.bl _)
    cases neg with
    | true => exact op_notIn_seq pins s σ H _ _ v u Q I rx ry ⟨p, vs, ey, hs, flat_of hx h1, flats_of r h2, by rw [inV_of hx h1 r h2]; exact P2⟩
    | false => exact op_in_seq pins s σ H _ _ v u Q I rx ry ⟨p, vs, ey, hs, flat_of hx h1, flats_of r h2, by rw [inV_of hx h1 r h2]; exact P2⟩
  have dic : ∀ {a : Addr} {o : Option V} {b : Bool}, y = .ref a → DGet H a x o → o.isSome = b → Q (.bl (if neg then !b else b)) H → wpAny (model X.prog X.w) X.A (compareOp (if neg then .NotIn else .In) v u) (L2.EP X pins σ Q) X.xe s := by
    intro a o b ey g hb q
    subst ey
    cases (show u = Value.ref a from ry)
    cases neg with
    | true => exact d_notIn G.u1 I g rx fun s' I' => ⟨.bl _, H, I', rfl, by rw [hb]; exact q⟩
    | false => exact d_in G.u1 I g rx fun s' I' => ⟨.bl _, H, I', rfl, by rw [hb]; exact q⟩
  cases hy with
  | tup e r => exact seq rfl (.inr (SqT.of e)) r P
  | kt e r => exact seq rfl (.inr (G.sqT (e H))) r P
  | ref e =>
    have P0 := P
    obtain ⟨o, _, b1, P⟩ := Post.rd S e (Post.bind P)
    cases b1 with
    | lst q r =>
      obtain ⟨h, P1⟩ := Post.guard P
      obtain ⟨h1, h2⟩ := Bool.and_eq_true_iff.mp h
      have P2 := (P1.ret S).oldT S (.bl _)
      cases neg with
      | true => exact op_notIn_seq pins s σ H _ _ v u Q I rx ry ⟨_, _, rfl, .inl (.inl (.inl q)), flat_of hx h1, flats_of r h2, by rw [inV_of hx h1 r h2]; exact P2⟩
      | false => exact op_in_seq pins s σ H _ _ v u Q I rx ry ⟨_, _, rfl, .inl (.inl (.inl q)), flat_of hx h1, flats_of r h2, by rw [inV_of hx h1 r h2]; exact P2⟩
    | ro q r =>
      obtain ⟨h, P1⟩ := Post.guard P
      obtain ⟨h1, h2⟩ := Bool.and_eq_true_iff.mp h
      have P2 := (P1.ret S).oldT S (.bl _)
      cases neg with
      | true => exact op_notIn_seq pins s σ H _ _ v u Q I rx ry ⟨_, _, rfl, .inl (.inl (.inr ⟨_, q⟩)), flat_of hx h1, flats_of r h2, by rw [inV_of hx h1 r h2]; exact P2⟩
      | false => exact op_in_seq pins s σ H _ _ v u Q I rx ry ⟨_, _, rfl, .inl (.inl (.inr ⟨_, q⟩)), flat_of hx h1, flats_of r h2, by rw [inV_of hx h1 r h2]; exact P2⟩
    | dK q r =>
      obtain ⟨r1, r2, g, h, P⟩ := dget_ok S (.dK q r) hx (Post.bind P)
      exact dic rfl g h.some.symm ((P.ret S).oldT S (.bl _))
    | dT q r =>
      obtain ⟨r1, r2, g, h, P⟩ := dget_ok S (.dT q r) hx (Post.bind P)
      exact dic rfl g h.some.symm ((P.ret S).oldT S (.bl _))
    | _ => exact False.elim (Post.bind P)
  | _ => exact False.elim P
def cmpOf : Cop → CmpOp
  | .eq => .Eq | .ne => .NotEq | .lt => .Lt | .le => .LtE | .gt => .Gt | .ge => .GtE | .isN => .Is | .notN => .IsNot | .in_ => .In | .nin => .NotIn
theorem cmpI_ok {f : Value → Value → Sem Value} {g : Int → Int → Bool} {F : Vl → Vl → M Vl} (h : OpR X f (rI0 fun i j => .bl (g i j))) (h1 : ∀ i j, F (.int i) (.int j) = ret (.bl (g i j))) (h2 : ∀ x y, (∀ i j, ¬ (x = .int i ∧ y = .int j)) → F x y = stuck) : OpR X f (rD L E F) := by
  intro pins s σ H x y v u Q I rx ry ⟨ρ, ah, x', y', S, hx, hy, P⟩
  by_cases e : ∃ i j, x' = .int i ∧ y' = .int j
  · obtain ⟨i, j, rfl, rfl⟩ := e
    cases hx; cases hy
    rw [h1] at P
    exact h pins s σ H _ _ v u Q I rx ry ⟨i, j, rfl, rfl, P.oldT S (.bl _)⟩
  · rw [h2 x' y' fun i j ⟨e1, e2⟩ => e ⟨i, j, e1, e2⟩] at P
    exact False.elim P
theorem isN_of {x : Vl} {v : V} (r : Rep L ρ H x v) : decide (v = .non) = isNonA x := by
  cases r <;> simp [isNonA]
theorem cop_ok (G : Gd L T n cf E X) : ∀ op : Cop, OpR X (compareOp (cmpOf op)) (rD L E (cop op))
  | .eq => eqB_ok G false
  | .ne => eqB_ok G true
  | .lt => lt_ok G
  | .le => cmpI_ok op_le (fun _ _ => rfl) fun x y h => by
    unfold cop
    split <;> first | rfl | (exfalso; exact h _ _ ⟨rfl, rfl⟩) | contradiction
  | .gt => cmpI_ok op_gt (fun _ _ => rfl) fun x y h => by
    unfold cop
    split <;> first | rfl | (exfalso; exact h _ _ ⟨rfl, rfl⟩) | contradiction
  | .ge => cmpI_ok op_ge (fun _ _ => rfl) fun x y h => by
    unfold cop
    split <;> first | rfl | (exfalso; exact h _ _ ⟨rfl, rfl⟩) | contradiction
  | .isN => by
    intro pins s σ H x y v u Q I rx ry ⟨ρ, ah, x', y', S, hx, hy, P⟩
    cases hy with
    | non =>
      have := P.oldT S (.bl _)
      rw [← isN_of hx] at this
      exact op_isN pins s σ H _ _ v u Q I rx ry ⟨rfl, this⟩
    | _ => exact False.elim P
  | .notN => by
    intro pins s σ H x y v u Q I rx ry ⟨ρ, ah, x', y', S, hx, hy, P⟩
    cases hy with
    | non =>
      have := P.oldT S (.bl _)
      rw [← isN_of hx] at this
      exact op_notN pins s σ H _ _ v u Q I rx ry ⟨rfl, this⟩
    | _ => exact False.elim P
  | .in_ => in_core G false
  | .nin => in_core G true
/-! ### truth -/
def tD (L : Lw) (E : XK) : V → Hp → (Bool → Hp → Prop) → Prop := fun x H Q => ∃ ρ ah x', Sim L ρ H ah ∧ Rep L ρ H x' x ∧ Post L E ρ H (tru x' ah) (fun k _ _ H' => Q k H')
theorem Reps.emp : ∀ {xs : List Vl} {vs : List V}, Reps L ρ H xs vs → xs.isEmpty = vs.isEmpty
  | _, _, .nil => rfl
  | _, _, .cons _ _ => rfl
theorem KR.emp {κ : Type} {xs : List (κ × Vl)} {vs : List (κ × V)} (h : KR L ρ H xs vs) : xs.isEmpty = vs.isEmpty := by
  cases h <;> rfl
theorem tru_okD (G : Gd L T n cf E X) : TruR X (tD L E) := by
  intro pins s σ H x v Q I rx ⟨ρ, ah, x', S, hx, P⟩
  cases hx with
  | non => exact tru_ok pins s σ H _ v Q I rx ⟨false, rfl, P.ret S⟩
  | bl b => exact tru_ok pins s σ H _ v Q I rx ⟨b, rfl, P.ret S⟩
  | int i => exact tru_ok pins s σ H _ v Q I rx ⟨_, rfl, P.ret S⟩
  | str z =>
    obtain ⟨h, P⟩ := Post.guard P
    exact tru_ok pins s σ H _ v Q I rx ⟨_, ⟨ble_line h, rfl⟩, P.ret S⟩
  | tup e r =>
    have P := P.ret S
    rw [r.emp] at P
    exact tru_ok pins s σ H _ v Q I rx ⟨_, .inr (.inl ⟨_, SqT.of e, rfl⟩), P⟩
  | ref e =>
    obtain ⟨o, _, b1, P⟩ := Post.rd S e P
    cases b1 with
    | lst q r =>
      have P := P.ret S
      rw [r.emp] at P
      exact tru_ok pins s σ H _ v Q I rx ⟨_, .inl ⟨_, .inl (.inl q), rfl⟩, P⟩
    | ro q r =>
      have P := P.ret S
      rw [r.emp] at P
      exact tru_ok pins s σ H _ v Q I rx ⟨_, .inl ⟨_, .inl (.inr ⟨_, q⟩), rfl⟩, P⟩
    | dK q r =>
      have P := P.ret S
      rw [r.emp] at P
      exact tru_ok pins s σ H _ v Q I rx ⟨_, .inr (.inr ⟨_, q, rfl⟩), P⟩
    | _ => exact False.elim P
  | _ => exact False.elim P
/-! ### isinstance -/
def tyS : Ty → String
  | .int => "int" | .bool => "bool" | .str => "str" | .tuple => "tuple" | .list => "list" | .dict => "dict"
def isD (L : Lw) (E : XK) (t : Ty) : List V → Hp → VK → Prop := fun xs H Q => ∃ ρ ah x x', Sim L ρ H ah ∧ xs = [x, .ty (tyS t)] ∧ Rep L ρ H x' x ∧ Post L E ρ H (isTy t x' ah) (fun k _ _ H' => Q (.bl k) H')
theorem isi_ok (G : Gd L T n cf E X) (t : Ty) : CallR X (.builtin "isinstance") (isD L E t) := by
  intro pins s σ H xs us Q I rs ⟨ρ, ah, x, x', S, e, hx, P⟩
  subst e
  have go : ∀ (a : String) (b : Bool), TyX X.K H x (.type a) → kitB a (tyS t) = some b → Q (.bl b) H → wpAny (model X.prog X.w) X.A (call (.builtin "isinstance") us) (L2.EP X pins σ Q) X.xe s := fun a b ty hk q =>
    call_isi pins s σ H _ us Q I rs ⟨x, _, _, _, b, rfl, .ty _, ty, kit_ty hk, q⟩
  cases hx with
  | non => exact go "NoneType" _ (.base .non) (by cases t <;> decide +kernel) (P.ret S)
  | bl b => exact go "bool" _ (.base (.bl b)) (by cases t <;> decide +kernel) (P.ret S)
  | int i => exact go "int" _ (.base (.int i)) (by cases t <;> decide +kernel) (P.ret S)
  | str z => exact go "str" _ (.base (.str z)) (by cases t <;> decide +kernel) (P.ret S)
  | tup e r => exact go "tuple" _ (.base (.tup e)) (by cases t <;> decide +kernel) (P.ret S)
  | ref e =>
    obtain ⟨o, _, b1, P⟩ := Post.rd S e P
    cases b1 with
    | lst q r => exact go "list" _ (.base (.lst q)) (by cases t <;> decide +kernel) (P.ret S)
    | dK q r => exact go "dict" _ (.base (.dK q)) (by cases t <;> decide +kernel) (P.ret S)
    | dT q r => exact go "dict" _ (.base (.dT q)) (by cases t <;> decide +kernel) (P.ret S)
    | _ => exact False.elim P
  | _ => exact False.elim P
end
end Ip

set_option Elab.async false
set_option linter.all false
set_option maxRecDepth 100000
set_option maxHeartbeats 4000000
namespace Ip
open PySem PySem.Spec PyProof.Rows L2

/-! ### indexing, slices, stores, methods -/
section
variable {L : Lw} {T : List Fn} {n : Nat} {cf : Orc} {E : XK} {X : Cx} {ρ : List Addr} {H : Hp} {ah : AH} {α β : Type}
def lD (L : Lw) (E : XK) (f : List Vl → M Vl) : List V → Hp → VK → Prop := fun xs H Q => ∃ ρ ah xs', Sim L ρ H ah ∧ Reps L ρ H xs' xs ∧ Post L E ρ H (f xs' ah) (VQ L Q)
theorem Reps.at {xs : List Vl} {vs : List V} {k : Int} {x : Vl} (r : Reps L ρ H xs vs) (e : atI xs k = some x) : ∃ v, atI vs k = some v ∧ Rep L ρ H x v := by
  unfold atI at e ⊢
  rw [r.length] at e
  cases h : ixN vs.length k with
  | none => rw [h] at e; cases e
  | some j =>
    rw [h] at e
    exact r.get e
theorem ix_ok (G : Gd L T n cf E X) : IxR X (rD L E ixV) := by
  intro value slice pins s σ H x y v u Q I rx ry ⟨ρ, ah, x', y', S, hx, hy, P⟩ hs
  have dic : ∀ {a : Addr} {o : Ob} (b : ObR L ρ H o a) (hh : x = .ref a) (_ : True), (∃ ob, ObR L ρ H ob a ∧ ((∃ ks, ob = .dK ks) ∨ ∃ ks, ob = .dT ks)) → Post L E ρ H ((dGet o y').bind optM ah) (VQ L Q) →
      wpAny (model X.prog X.w) X.A (subscriptTail value slice v u) (EP X pins σ Q) X.xe s := by
    intro a o b hh _ hd P
    subst hh
    obtain ⟨r1, r2, g, h, P⟩ := dget_ok S b hy (Post.bind P)
    obtain ⟨z, hz, P9⟩ := Post.optM (Φ := VQ L Q) P S
    subst hz
    cases r2 with
    | none => exact False.elim h
    | some w =>
      have q : Q w H := P9 w h
      cases (show v = Value.ref a from rx)
      have ty : s.TypeIs (.ref a) "dict" := by
        obtain ⟨ob, b2, hb⟩ := hd
        rcases hb with ⟨ks, rfl⟩ | ⟨ks, rfl⟩
        · cases b2 with
          | dK q _ =>
            obtain ⟨_, _, _, _, o, _, _, e, ex, _⟩ := I.hok _ _ q
            exact ⟨o, e, ex.1⟩
        · cases b2 with
          | dT q _ =>
            obtain ⟨_, _, _, _, o, _, _, e, ex, _⟩ := I.hok _ _ q
            exact ⟨o, e, ex.1⟩
      exact tail_any ty PySem.F.slot_dict_getitem.lookup (d_getItem G.u1 I g ry fun w' s' I' r' => ⟨w, H, I', r', q⟩) hs
  cases hx with
  | tup e r =>
    cases hy with
    | int k =>
      obtain ⟨z, hz, P⟩ := Post.optM P S
      obtain ⟨w, hw, rw'⟩ := r.at hz
      exact ix_tup value slice pins s σ H _ _ v u Q I rx ry ⟨_, _, k, w, rfl, rfl, SqT.of e, hw, P _ rw'⟩ hs
    | _ => exact False.elim P
  | kt e r =>
    cases hy with
    | int k =>
      obtain ⟨z, hz, P⟩ := Post.optM P S
      obtain ⟨w, hw, rw'⟩ := r.at hz
      exact ix_tup value slice pins s σ H _ _ v u Q I rx ry ⟨_, _, k, w, rfl, rfl, G.sqT (e H), hw, P _ rw'⟩ hs
    | _ => exact False.elim P
  | str z =>
    cases hy with
    | int k =>
      obtain ⟨h1, P⟩ := Post.guard P
      obtain ⟨c, hc, P⟩ := Post.opt P
      exact ix_str value slice pins s σ H _ _ v u Q I rx ry ⟨z, k, c, rfl, rfl, ble_line h1, hc, P.oldT S (.str _)⟩ hs
    | _ => exact False.elim P
  | ref e =>
    obtain ⟨o, _, b1, P⟩ := Post.rd S e P
    cases b1 with
    | lst q r =>
      cases hy with
      | int k =>
        obtain ⟨z, hz, P⟩ := Post.optM P S
        obtain ⟨w, hw, rw'⟩ := r.at hz
        exact ix_list value slice pins s σ H _ _ v u Q I rx ry ⟨_, _, k, w, rfl, rfl, G.sqL q, hw, P _ rw'⟩ hs
      | _ => exact False.elim P
    | ro q r =>
      cases hy with
      | int k =>
        obtain ⟨z, hz, P⟩ := Post.optM P S
        obtain ⟨w, hw, rw'⟩ := r.at hz
        exact ix_list value slice pins s σ H _ _ v u Q I rx ry ⟨_, _, k, w, rfl, rfl, .inl (.inr ⟨_, q⟩), hw, P _ rw'⟩ hs
      | _ => exact False.elim P
    | dK q r => exact dic (.dK q r) rfl trivial ⟨_, .dK q r, .inl ⟨_, rfl⟩⟩ P
    | dT q r => exact dic (.dT q r) rfl trivial ⟨_, .dT q r, .inr ⟨_, rfl⟩⟩ P
    | _ => exact False.elim P
  | _ => exact False.elim P
/-! slices -/
def sD (L : Lw) (E : XK) : V → Option Int → Option Int → Hp → VK → Prop := fun x lo hi H Q => ∃ ρ ah x', Sim L ρ H ah ∧ Rep L ρ H x' x ∧ Post L E ρ H (slcV x' lo hi ah) (VQ L Q)
theorem Reps.cut {xs : List Vl} {vs : List V} (r : Reps L ρ H xs vs) (lo hi : Option Int) : Reps L ρ H (cutA xs lo hi) (cutV vs lo hi) := by
  unfold cutA cutV
  rw [r.length]
  exact (r.drop _).take _
theorem cut_whole {α : Type} (xs : List α) (lo hi : Option Int) (h1 : HT.sIx xs.length 0 lo = 0) (h2 : HT.sIx xs.length xs.length hi = xs.length) : (xs.drop (HT.sIx xs.length 0 lo)).take (HT.sIx xs.length xs.length hi - HT.sIx xs.length 0 lo) = xs := by
  rw [h1, h2]; simp
theorem slc_ok (G : Gd L T n cf E X) : SlR X (sD L E) := by
  intro pins s σ H x v vl vu lo hi sl Q I rx hs pl pu ⟨ρ, ah, x', S, hx, P⟩
  cases hx with
  | tup e r =>
    refine sl_tupA pins s σ H _ v vl vu lo hi sl Q I rx hs pl pu ⟨_, _, rfl, SqT.of e, fun ⟨h1, h2⟩ => ?_, fun _ p hp => P.newT S hp (r.cut lo hi)⟩
    have q := r.cut lo hi
    have ec : cutV _ lo hi = _ := cut_whole _ lo hi h1 h2
    rw [ec] at q
    exact P.oldT S (.tup e q)
  | ref e =>
    obtain ⟨o, _, b1, P⟩ := Post.rd S e P
    cases b1 with
    | lst q r => exact sl_list pins s σ H _ v vl vu lo hi sl Q I rx hs pl pu ⟨_, _, rfl, G.sqL q, fun p hp => P.newL S hp (r.cut lo hi)⟩
    | _ => exact False.elim P
  | _ => exact False.elim P
/-! o[i] = v -/
def pD (L : Lw) (E : XK) : V → V → V → Hp → (Hp → Prop) → Prop := fun o i v H Q => ∃ ρ ah o' i' v', Sim L ρ H ah ∧ Rep L ρ H o' o ∧ Rep L ρ H i' i ∧ Rep L ρ H v' v ∧ Post L E ρ H (setV o' i' v' ah) (fun _ _ _ H' => Q H')
theorem set_ok (G : Gd L T n cf E X) : PSet X (pD L E) := by
  intro pins s σ H o i v ov iv u Q I ro ri rv ⟨ρ, ah, o', i', v', S, ho, hi, hv, P⟩
  cases ho with
  | @ref a b e =>
    obtain ⟨ob, _, b1, P⟩ := Post.rd S e P
    cases (show ov = Value.ref b from ro)
    cases b1 with
    | @lst xs vs _ q r =>
      cases hi with
      | int k =>
        cases hj : ixN xs.length k with
        | none => simp only [hj] at P; exact False.elim P
        | some j =>
          simp only [hj] at P
          have q2 := P.wr' (ho := .lst (vs.set j v)) S e fun H' st e2 => .lst e2 (Reps.set (hv.step S st) j (r.step S st))
          rw [r.length] at hj
          exact set_list pins s σ H _ _ v _ iv u Q I ro ri rv ⟨_, _, k, j, rfl, rfl, q, hj, q2⟩
      | _ => exact False.elim P
    | @dK ks vs _ q r =>
      have P := Post.bind P
      unfold dPut at P
      cases hk : keyOf i' with
      | none => simp only [hk] at P; exact False.elim P
      | some k =>
        simp only [hk] at P
        obtain ⟨h1, P⟩ := Post.guard P
        have P := P.ret S
        have q2 := P.wr' (ho := .dK (putK vs k v)) S e fun H' st e2 => .dK e2 (KR.put k (hv.step S st) (r.step S st))
        have hl : vs.length < sizeLine := by rw [← r.length, ← line_eq]; exact Nat.le_of_ble_eq_true h1
        exact d_setItem G.u1 I (.inl ⟨vs, k, q, key_of_v hi hk, hl, rfl⟩) ri rv fun s' I' => ⟨_, I', q2⟩
    | @dT ks vs _ q r =>
      have P := Post.bind P
      cases hi with
      | @tup zs _ _ e2 r2 =>
        unfold dPut at P
        cases hk : keysOf zs with
        | none => simp only [hk] at P; exact False.elim P
        | some k =>
          simp only [hk] at P
          obtain ⟨h1, P⟩ := Post.guard P
          have P := P.ret S
          have q2 := P.wr' (ho := .dT (putK vs k v)) S e fun H' st e2 => .dT e2 (KR.put k (hv.step S st) (r.step S st))
          have hl : vs.length < sizeLine := by rw [← r.length, ← line_eq]; exact Nat.le_of_ble_eq_true h1
          rw [keys_of_v r2 hk] at e2
          exact d_setItem G.u1 I (.inr ⟨vs, k, _, q, rfl, e2, hl, rfl⟩) ri rv fun s' I' => ⟨_, I', q2⟩
      | _ => exact False.elim P
    | _ => exact False.elim P
  | _ => exact False.elim P
end
end Ip

set_option Elab.async false
set_option linter.all false
set_option maxRecDepth 100000
set_option maxHeartbeats 4000000
namespace Ip
open PySem PySem.Spec PyProof.Rows L2

section
variable {L : Lw} {T : List Fn} {n : Nat} {cf : Orc} {E : XK} {X : Cx} {ρ : List Addr} {H : Hp} {ah : AH} {α β : Type}
theorem Reps.keys (ks : List Key) : Reps L ρ H (ks.map ofKey) (ks.map kV) := by
  induction ks with
  | nil => exact .nil
  | cons k t ih =>
    refine .cons ?_ ih
    cases k with
    | inl i => exact .int i
    | inr x => exact .str x
theorem KR.keysK {ks : List (Key × Vl)} {vs : List (Key × V)} (r : KR L ρ H ks vs) : Reps L ρ H (ks.map fun p => ofKey p.1) (vs.map fun kv => kV kv.1) := by
  induction r with
  | nil => exact .nil
  | @cons a b _ _ h t ih =>
    refine .cons ?_ ih
    dsimp only
    rw [h.1]
    cases b.1 with
    | inl i => exact .int i
    | inr x => exact .str x
theorem KR.keysT {ks : List (List Key × Vl)} {vs : List (List Key × V)} {bs : List Addr} (r : KR L ρ H ks vs) (q : IsKeys H vs bs) : Reps L ρ H (ks.map fun p => Vl.tup (p.1.map ofKey)) (bs.map V.ref) := by
  unfold IsKeys at q
  induction r generalizing bs with
  | nil => cases q; exact .nil
  | cons h t ih =>
    cases q with
    | cons h1 t1 =>
      refine .cons (.tup h1 ?_) (ih t1)
      rw [h.1]
      exact Reps.keys _
theorem mems2_cases {i : Nat} {a : Addr} {Φ : List Vl → AH → List Addr → Hp → Prop} (S : Sim L ρ H ah) (e : ρ[i]? = some a) (P : Post L E ρ H (mems2 (.ref i) ah) Φ) :
    (∃ lo hi, H a = some (.rng lo hi) ∧ (-(2 ^ 62) ≤ lo ∧ lo < 2 ^ 62 ∧ -(2 ^ 62) ≤ hi ∧ hi < 2 ^ 62) ∧ (hi - lo).toNat ≤ sizeLine ∧ Φ (rangeA lo (hi - lo).toNat) ah ρ H) ∨ Post L E ρ H (mems (.ref i) ah) Φ := by
  unfold mems2 at P
  have hlt : i < ah.length := by rw [← S.len]; exact (List.getElem?_eq_some_iff.mp e).1
  have e2 : ah[i]? = some ah[i] := List.getElem?_eq_getElem hlt
  have b := S.ob i a _ e e2
  dsimp only at P
  split at P
  · rename_i lo hi q
    rw [e2] at q
    have q := Option.some.inj q
    rw [q] at b
    cases b with
    | rng h =>
      split at P
      · rename_i hg
        simp only [Bool.and_eq_true] at hg
        obtain ⟨⟨g1, g2⟩, g3⟩ := hg
        unfold near at g1 g2
        simp only [Bool.and_eq_true, decide_eq_true_eq] at g1 g2
        exact .inl ⟨lo, hi, h, ⟨g1.1, g1.2, g2.1, g2.2⟩, ble_line g3, Post.ret P S⟩
      · exact False.elim P
  · exact .inr P
theorem rangeA_reps (lo : Int) : ∀ n : Nat, Reps L ρ H (rangeA lo n) ((List.range n).map fun i => V.int (lo + (i : Nat))) := by
  have key : ∀ (n : Nat) (lo : Int) (k : Nat), Reps L ρ H (rangeA (lo + k) n) ((List.range' k n).map fun i => V.int (lo + (i : Nat))) := by
    intro n
    induction n with
    | zero => intro lo k; exact .nil
    | succ n ih =>
      intro lo k
      rw [rangeA, List.range'_succ, List.map_cons]
      refine .cons (.int _) ?_
      have := ih lo (k + 1)
      rw [show lo + ((k + 1 : Nat) : Int) = lo + (k : Int) + 1 by omega] at this
      exact this
  intro n
  have := key n lo 0
  rw [List.range_eq_range']
  simpa using this
theorem ints_items {lo : Int} {n : Nat} {acc : Array Value} (h : ItemsOf (fun i v => ∃ t, v = .int (lo + i * 1) t) acc n) : L2.Vals ((List.range n).map fun i => V.int (lo + (i : Nat))) acc.toList := by
  refine vals_of_at (by rw [List.length_map, List.length_range, Array.length_toList]; exact h.1.symm) fun j x w h1 h2 => ?_
  rw [List.getElem?_map] at h1
  obtain ⟨t, ht⟩ := h.2 j w (by rw [← Array.getElem?_toList]; exact h2)
  cases q : (List.range n)[j]? with
  | none => rw [q] at h1; cases h1
  | some k =>
    rw [q] at h1
    have : k = j := by
      obtain ⟨hl, e⟩ := List.getElem?_eq_some_iff.mp q
      rw [List.getElem_range] at e
      exact e.symm
    subst this
    cases h1
    exact ⟨t, by rw [ht, Int.mul_one]⟩
/-- the members, gathered -/
theorem col (G : Gd L T n cf E X) {pins : List (Addr × Obj)} {s : Shared} {σ : L2.St} {x : V} {v : Value} {x' : Vl} {Φ : List Vl → AH → List Addr → Hp → Prop} (I : L2.Inv X pins σ H s) (rx : L2.RelV x v) (S : Sim L ρ H ah) (hx : Rep L ρ H x' x) (P : Post L E ρ H (mems2 x' ah) Φ) :
    ∃ xs ys a T', Reps L ρ H xs ys ∧ Φ xs ah ρ H ∧ v = .ref a ∧ ys.length ≤ sizeLine ∧ s.TypeIs v T' ∧ T' ∈ ["list", "tuple", "dict", "range"] ∧ (T' = "tuple" → ∃ zs, x = .ref a ∧ H a = some (.tup zs) ∧ ys = zs) ∧ ∀ (A : Around) (R : List Value → Shared → Prop) (E' : Value → Shared → Prop), A.handled = none →
      (∀ (us : List Value) (h' : Heap) (tk : Nat), L2.Inv X pins σ H { s with heap := h', toks := tk } → (∀ b o, s.heap.get? b = some o → h'.get? b = some o) → L2.Vals ys us → R us { s with heap := h', toks := tk }) → wpAny (model X.prog X.w) A (collect v) R E' s := by
  have seq : ∀ {xs : List Vl} {ys : List V} {a : Addr} {T' : String} {o : Obj} {its : List Value} {k : Nat}, Reps L ρ H xs ys → L2.Vals ys its → v = .ref a → (T' = "list" ∨ T' = "tuple") → s.heap.get? a = some o → o.cls = .type T' → o.data = .seq its.toArray k → ys.length ≤ sizeLine → Φ xs ah ρ H → (T' = "tuple" → ∃ zs, x = .ref a ∧ H a = some (.tup zs) ∧ ys = zs) →
      ∃ xs ys a T', Reps L ρ H xs ys ∧ Φ xs ah ρ H ∧ v = .ref a ∧ ys.length ≤ sizeLine ∧ s.TypeIs v T' ∧ T' ∈ ["list", "tuple", "dict", "range"] ∧ (T' = "tuple" → ∃ zs, x = .ref a ∧ H a = some (.tup zs) ∧ ys = zs) ∧ ∀ (A : Around) (R : List Value → Shared → Prop) (E' : Value → Shared → Prop), A.handled = none →
        (∀ (us : List Value) (h' : Heap) (tk : Nat), L2.Inv X pins σ H { s with heap := h', toks := tk } → (∀ b o, s.heap.get? b = some o → h'.get? b = some o) → L2.Vals ys us → R us { s with heap := h', toks := tk }) → wpAny (model X.prog X.w) A (collect v) R E' s := by
    intro xs ys a T' o its k r rv ev hT ho hc hd hz q ht
    subst ev
    refine ⟨xs, ys, a, T', r, q, rfl, hz, ⟨o, ho, hc⟩, by rcases hT with rfl | rfl <;> simp, ht, fun A R E' hA h => ?_⟩
    have hl := rv.length
    refine wpAny_collect_seq a hT ho hc hd (fun h' hk => ?_) (by rw [List.size_toArray]; omega)
    have := h its h' s.toks (I.kept (t' := s.toks) hk) hk rv
    exact this
  cases hx with
  | tup e r =>
    have P := P.ret S
    obtain ⟨its, rv, pl, hz⟩ := I.tuple (SqT.of e)
    obtain ⟨o, ho, hc, k, hd⟩ := pl
    exact seq r rv rx (.inr rfl) ho hc hd hz P fun _ => ⟨_, rfl, e, rfl⟩
  | @ref i0 a0 e =>
    rcases mems2_cases S e P with ⟨lo, hi, h, ⟨n1, n2, n3, n4⟩, hz, q⟩ | P
    · cases (show v = Value.ref a0 from rx)
      obtain ⟨t, u, w, ho⟩ := (show ObjOk X.prog X.w H s.heap a0 (.rng lo hi) from I.hok _ _ h)
      have hsz : (hi - lo).toNat ≤ 2 ^ 24 := by rw [sizeLine_eq] at hz; omega
      have e2 : Builtin.Range.rangeSize lo hi 1 = (hi - lo).toNat := by rw [rangeSize_one]; split <;> omega
      refine ⟨_, _, a0, "range", rangeA_reps lo _, q, rfl, by rw [List.length_map, List.length_range]; exact hz, ⟨_, ho, rfl⟩, by simp, fun z => absurd z (by decide), fun A R E' hA hh => ?_⟩
      exact collect_range hA ho (small_one n1 n2 n3 n4) e2 hsz fun h' tk acc hk hacc => hh _ h' tk (I.kept hk) hk (ints_items hacc)
    obtain ⟨o, _, b1, P⟩ := Post.rd S e P
    cases b1 with
    | lst q r =>
      have P := P.ret S
      obtain ⟨its, rv, pl, hz⟩ := I.list (SqL.of q)
      obtain ⟨o, k, ho, hc, _, hd⟩ := pl
      exact seq r rv rx (.inl rfl) ho hc hd hz P fun z => absurd z (by decide)
    | ro q r =>
      have P := P.ret S
      obtain ⟨its, rv, pl, hz⟩ := I.list (.inl (.inr ⟨_, q⟩))
      obtain ⟨o, k, ho, hc, _, hd⟩ := pl
      exact seq r rv rx (.inl rfl) ho hc hd hz P fun z => absurd z (by decide)
    | @dK ks vs _ q r =>
      have P := P.ret S
      cases (show v = Value.ref a0 from rx)
      obtain ⟨z, lo, ws, rk, hd⟩ := (show ObjOk X.prog X.w H s.heap _ (.dK _) from I.hok _ _ q)
      obtain ⟨ep, hat⟩ := hd.dictAt
      have hl := Paired.length rk
      have ht : s.TypeIs (.ref a0) "dict" := by
        obtain ⟨o, es, ep, h1, h2, _⟩ := hd
        exact ⟨o, h1, h2.1⟩
      refine ⟨_, _, _, "dict", r.keysK, P, rfl, by rw [List.length_map]; exact z, ht, by simp, fun z => absurd z (by decide), fun A R E' hA h => ?_⟩
      refine PySem.W.kdu_collect (PySem.W.kdl_dict (knd := mixKind X.prog X.w) (kvs := ws) (ep := ep) lo) hA hat (by rw [← hl]; exact z) fun h' tk acc' hkeep hacc => ?_
      refine h _ h' tk (I.kept hkeep) hkeep ?_
      have el : acc'.toList.length = acc'.size := by simp
      refine vals_of_at (by rw [List.length_map, el, hacc.1, hl]) fun j x w h1 h2 => ?_
      obtain ⟨k, y, hky, hi⟩ := hacc.2 j w (by rw [← Array.getElem?_toList]; exact h2)
      have e1 : (vs.map (·.1))[j]? = some k := by
        rw [KV.keys rk, List.getElem?_map, hky]; rfl
      have e2 : (vs.map fun kv => kV kv.1)[j]? = some (kV k) := by
        have e3 : (vs.map fun kv => kV kv.1) = (vs.map (·.1)).map kV := by rw [List.map_map]; rfl
        rw [e3, List.getElem?_map, e1]; rfl
      rw [e2] at h1
      cases h1
      exact keyIs_rel hi
    | @dT ks vs _ q r =>
      have P := P.ret S
      cases (show v = Value.ref a0 from rx)
      obtain ⟨z, hs, ws, pr, o, es, ep, ho, hx, hdt, he, hn⟩ := (show ObjOk X.prog X.w H s.heap _ (.dT _) from I.hok _ _ q)
      have l1 : es.size = ws.length := size_of_entries he
      have l2 : vs.length = ws.length := Paired.length pr
      have hbs : ((ws.map fun x => x.2.1).map V.ref).length ≤ sizeLine := by rw [List.length_map, List.length_map]; omega
      refine ⟨_, _, _, "dict", r.keysT (isKeys_of pr), P, rfl, hbs, ⟨o, ho, hx.1⟩, by simp, fun z => absurd z (by decide), fun A R E' hA h => ?_⟩
      refine PySem.W.kdu_collect (kdl_raw hs hx hdt) hA ho (by omega) fun h' tk acc' kp it => ?_
      refine h _ h' tk (I.kept kp) kp ?_
      have ea : acc'.toList = ws.map fun x => Value.ref x.2.1 := by
        have hl : acc'.toList.length = ws.length := by rw [Array.length_toList, it.1]; exact l1
        apply List.ext_getElem?
        intro j
        rw [List.getElem?_map]
        cases hj : acc'.toList[j]? with
        | none =>
          have h1 := List.getElem?_eq_none_iff.mp hj
          rw [List.getElem?_eq_none (by omega)]
          all_goals rfl
        | some v =>
          obtain ⟨en, hen, hv⟩ := it.2 j v (by rw [← Array.getElem?_toList]; exact hj)
          have qe := entry_at he j
          rw [hen] at qe
          cases hb : ws[j]? with
          | none =>
            rw [hb] at qe
            exact nomatch (show some en = none from qe)
          | some b =>
            rw [hb] at qe
            have e2 : en = entryOfKey (tupleKind (mixKind X.prog X.w)) b := Option.some.inj qe
            rw [hv, e2]
            all_goals rfl
      have eb : acc'.toList = (ws.map fun x => x.2.1).map Value.ref := by rw [ea, List.map_map]; all_goals rfl
      rw [eb]
      exact vals_refs _
    | _ => exact False.elim P
  | _ => exact False.elim P
end
end Ip

set_option Elab.async false
set_option linter.all false
set_option maxRecDepth 100000
set_option maxHeartbeats 4000000
namespace Ip
open PySem PySem.Spec PyProof.Rows L2

section
variable {prog : Program} {w : World} {A : Around} {E : Value → Shared → Prop} {s : Shared} {r : Addr}
theorem code_tuple_dict {Q₁ : Value → Shared → Prop} {J : List Value → Shared → Prop} (hT : s.TypeIs (.ref r) "dict")
    (hc : ∀ (A' : Around) (R : List Value → Shared → Prop) (E' : Value → Shared → Prop), A'.handled = A.handled → (∀ us s', J us s' → R us s') → wpAny (model prog w) A' (collect (.ref r)) R E' s)
    (hz : ∀ us s', J us s' → us.length ≤ sizeLine) (h : ∀ us s', J us s' → Q₁ (.ref s'.heap.objs.size) { s' with heap := s'.heap.push { cls := .type "tuple", data := .seq us.toArray } }) :
    codeAny (model prog w) A (.call (.builtin "tuple.__new__") ⟨[.type "tuple", .ref r], []⟩) (wants Q₁ E) s := by
  refine codeAny_of_tree ?_
  show wpAny _ A.in1 (do checkBuiltinCall "tuple.__new__" ⟨[.type "tuple", .ref r], []⟩; again (.builtin "tuple.__new__" ⟨[.type "tuple", .ref r], []⟩)) _ _ s
  refine wpAny_bind (wpAny_of_eq (F.newCall_tuple_1 _) (wpAny_pure ⟨plainId_quiet F.plain_tuple_new _, codeAny_builtin F.entry_tuple_new ?_⟩))
  rw [Around.under_plainId F.plain_tuple_new _]
  have hsub := sub_tuple_self
  have hinit := init_tuple_lookup
  have hmh := madeHere_tuple
  have hc2 : ∀ (R : List Value → Shared → Prop) (E' : Value → Shared → Prop), (∀ us s', J us s' → R us s') → wpAny (model prog w) A.in1 (collect (.ref r)) R E' s := fun R E' h => hc A.in1 R E' rfl h
  wp_walk using wpAny_typeOf hT, hc2 _ _
  intro us s' hj
  show wpAny _ _ (Builtin.Tuple.tupleExact us.toArray >>= _) _ _ _
  unfold Builtin.Tuple.tupleExact
  refine wpAny_bind (wpAny_newObj_type ?_ (by show us.toArray.size ≤ sizeLine; rw [List.size_toArray]; exact hz us s' hj))
  exact wpAny_pure (h us s' hj)
theorem call_tuple_dict {Q : Value → Shared → Prop} {J : List Value → Shared → Prop} (hT : s.TypeIs (.ref r) "dict")
    (hc : ∀ (A' : Around) (R : List Value → Shared → Prop) (E' : Value → Shared → Prop), A'.handled = A.handled → (∀ us s', J us s' → R us s') → wpAny (model prog w) A' (collect (.ref r)) R E' s)
    (hz : ∀ us s', J us s' → us.length ≤ sizeLine) (h : ∀ us s', J us s' → Q (.ref s'.heap.objs.size) { s' with heap := s'.heap.push { cls := .type "tuple", data := .seq us.toArray } }) :
    wpAny (model prog w) A (call (.type "tuple") [.ref r]) Q E s := by
  refine callType_codes (Q₁ := fun obj s₁ => s₁.TypeIs obj "tuple" ∧ Q obj s₁) F.called_tuple (F.typeCall_tuple_1 _) F.entry_object_init
    (code_tuple_dict (A := A.in1) hT (fun A' R E' e => hc A' R E' e) hz fun us s' hj => ⟨⟨_, Heap.get?_push_size _ rfl, rfl⟩, h us s' hj⟩) fun obj s₁ h₁ => ?_
  exact ⟨h₁.1, F.args_object_init_2 obj _, object_init_meets F.called_tuple.init.lookup F.called_tuple.made (by decide) prog w A.in1 _ s₁ ⟨h₁.1, rfl, h₁.2⟩⟩
end
section
variable {L : Lw} {T : List Fn} {n : Nat} {cf : Orc} {E : XK} {X : Cx} {ρ : List Addr} {H : Hp} {ah : AH} {α β : Type}
theorem Post.bt {m : M α} {f : α → M β} {Φ : α → AH → List Addr → Hp → Prop} {Θ : β → AH → List Addr → Hp → Prop} (h : Post L E ρ H ((M.bind m f) ah) Θ) (k : ∀ a ah1 ρ1 H1, Step ρ H ρ1 H1 → Sim L ρ1 H1 ah1 → Post L E ρ1 H1 (f a ah1) Θ → Φ a ah1 ρ1 H1) : Post L E ρ H (m ah) Φ :=
  (Post.bind h).imp fun a ah1 ρ1 H1 st S q => k a ah1 ρ1 H1 st S q
/-- tuple(x) -/
theorem tuple_ok (G : Gd L T n cf E X) : CallR X (.type "tuple") (lD L E (blt .tuple)) := by
  intro pins s σ H xs us Q I rs ⟨ρ, ah, xs', S, hx, P⟩
  cases hx with
  | cons hx t =>
    cases t with
    | cons _ _ => exact False.elim P
    | nil =>
      obtain ⟨u, rfl, rx⟩ := vals1 rs
      have P2 := Post.bind P
      cases hx with
      | tup e r => exact call_tuple_of pins s σ H _ _ Q I rs ⟨_, _, rfl, .inr ⟨SqT.of e, P.oldT S (.tup e r)⟩⟩
      | @ref i0 a0 e =>
        rcases mems2_cases S e P2 with ⟨lo, hi, h, ⟨n1, n2, n3, n4⟩, hz, q⟩ | P2'
        · cases (show u = Value.ref a0 from rx)
          obtain ⟨t, u, w, ho⟩ := (show ObjOk X.prog X.w H s.heap a0 (.rng lo hi) from I.hok _ _ h)
          have hsz : (hi - lo).toNat ≤ 2 ^ 24 := by rw [sizeLine_eq] at hz; omega
          have e2 : Builtin.Range.rangeSize lo hi 1 = (hi - lo).toNat := by rw [rangeSize_one]; split <;> omega
          refine call_tuple_range (I.ok.hd G.calm) ho (small_one n1 n2 n3 n4) e2 hsz fun h' tk acc kp hacc => ?_
          have I' : L2.Inv X pins σ H { s with heap := h', toks := tk } := I.kept kp
          have rv := ints_items hacc
          have hl : ((List.range (hi - lo).toNat).map fun i => V.int (lo + (i : Nat))).length ≤ sizeLine := by rw [List.length_map, List.length_range]; exact hz
          refine ⟨.ref h'.objs.size, _, I'.laid (t' := tk) (fun b o e => Heap.get?_push_of_some _ e) (Nat.le_refl _) (show ObjOk X.prog X.w _ _ _ (.tup _) from ⟨hl, acc.toList, rv, ?_⟩), rfl, Post.newT q S (I'.hok.fresh (Nat.le_refl _)) (rangeA_reps lo _)⟩
          rw [Array.toArray_toList]
          exact IsTup.new _ _
        obtain ⟨o, _, b1, P3⟩ := Post.rd S e P2'
        cases b1 with
        | lst q r => exact call_tuple_of pins s σ H _ _ Q I rs ⟨_, _, rfl, .inl ⟨SqL.of q, fun l hl => (P3.ret S).newT S hl r⟩⟩
        | ro q r => exact call_tuple_of pins s σ H _ _ Q I rs ⟨_, _, rfl, .inl ⟨.inl (.inr ⟨_, q⟩), fun l hl => (P3.ret S).newT S hl r⟩⟩
        | dK q r =>
          obtain ⟨zs, ys, a, T', r2, P4, rfl, hz, ht, hT, _, hcol⟩ := col G I rx S (.ref e) P2
          have hT' : T' = "dict" := by
            obtain ⟨_, _, _, _, o, _, _, e1, ex, _⟩ := I.hok _ _ q
            obtain ⟨o2, e2, c2⟩ := ht
            cases rx
            rw [e1] at e2; cases e2
            rw [ex.1] at c2
            cases c2; rfl
          subst hT'
          refine call_tuple_dict (J := fun us s' => ∃ h' tk, s' = { s with heap := h', toks := tk } ∧ L2.Inv X pins σ H s' ∧ L2.Vals ys us) ht (fun A' R E' hA h => hcol A' R E' (hA.trans (I.ok.hd G.calm)) fun us h' tk I' k rv => h _ _ ⟨h', tk, rfl, I', rv⟩) (fun us s' ⟨h', tk, es, I', rv⟩ => by rw [← rv.length]; exact hz) fun us s' ⟨h', tk, es, I', rv⟩ => ?_
          subst es
          exact ⟨.ref _, _, I'.laid (fun b o e => Heap.get?_push_of_some _ e) (Nat.le_refl _) (show ObjOk X.prog X.w _ _ _ (.tup ys) from ⟨hz, us, rv, IsTup.new _ _⟩), rfl, Post.newT P4 S (I'.hok.fresh (Nat.le_refl _)) r2⟩
        | dT q r =>
          obtain ⟨zs, ys, a, T', r2, P4, rfl, hz, ht, hT, _, hcol⟩ := col G I rx S (.ref e) P2
          have hT' : T' = "dict" := by
            obtain ⟨_, _, _, _, o, _, _, e1, ex, _⟩ := I.hok _ _ q
            obtain ⟨o2, e2, c2⟩ := ht
            cases rx
            rw [e1] at e2; cases e2
            rw [ex.1] at c2
            cases c2; rfl
          subst hT'
          refine call_tuple_dict (J := fun us s' => ∃ h' tk, s' = { s with heap := h', toks := tk } ∧ L2.Inv X pins σ H s' ∧ L2.Vals ys us) ht (fun A' R E' hA h => hcol A' R E' (hA.trans (I.ok.hd G.calm)) fun us h' tk I' k rv => h _ _ ⟨h', tk, rfl, I', rv⟩) (fun us s' ⟨h', tk, es, I', rv⟩ => by rw [← rv.length]; exact hz) fun us s' ⟨h', tk, es, I', rv⟩ => ?_
          subst es
          exact ⟨.ref _, _, I'.laid (fun b o e => Heap.get?_push_of_some _ e) (Nat.le_refl _) (show ObjOk X.prog X.w _ _ _ (.tup ys) from ⟨hz, us, rv, IsTup.new _ _⟩), rfl, Post.newT P4 S (I'.hok.fresh (Nat.le_refl _)) r2⟩
        | _ => exact False.elim P3
      | _ => exact False.elim P
  | nil => exact False.elim P
/-- list(x) -/
theorem list_ok (G : Gd L T n cf E X) : CallR X (.type "list") (lD L E (blt .list)) := by
  intro pins s σ H xs us Q I rs ⟨ρ, ah, xs', S, hx, P⟩
  cases hx with
  | cons hx t =>
    cases t with
    | cons _ _ => exact False.elim P
    | nil =>
      have P2 := Post.bind P
      cases hx with
      | tup e r => exact call_list_of pins s σ H _ _ Q I rs ⟨_, _, rfl, .inr (SqT.of e), fun l hl => (P2.ret S).newL S hl r⟩
      | @ref i0 a0 e =>
        rcases mems2_cases S e P2 with ⟨lo, hi, h, ⟨n1, n2, n3, n4⟩, hz, q⟩ | P2
        · obtain ⟨u, rfl, rx⟩ := vals1 rs
          cases (show u = Value.ref a0 from rx)
          obtain ⟨t, u, w, ho⟩ := (show ObjOk X.prog X.w H s.heap a0 (.rng lo hi) from I.hok _ _ h)
          have hsz : (hi - lo).toNat ≤ 2 ^ 24 := by rw [sizeLine_eq] at hz; omega
          have e2 : Builtin.Range.rangeSize lo hi 1 = (hi - lo).toNat := by rw [rangeSize_one]; split <;> omega
          refine call_list_range (I.ok.hd G.calm) ho (small_one n1 n2 n3 n4) e2 hsz fun h' tk acc c' kp eo hacc => ?_
          have rv := ints_items hacc
          have hl : ((List.range (hi - lo).toNat).map fun i => V.int (lo + (i : Nat))).length ≤ sizeLine := by rw [List.length_map, List.length_range]; exact hz
          refine ⟨.ref s.heap.objs.size, _, I.laid (t' := tk) kp (Nat.le_refl _) (show ObjOk X.prog X.w _ _ _ (.lst _) from ⟨hl, acc.toList, c', rv, ?_⟩), rfl, Post.newL q S (I.hok.fresh (Nat.le_refl _)) (rangeA_reps lo _)⟩
          rw [Array.toArray_toList]
          exact eo
        obtain ⟨o, _, b1, P3⟩ := Post.rd S e P2
        cases b1 with
        | lst q r => exact call_list_of pins s σ H _ _ Q I rs ⟨_, _, rfl, .inl (SqL.of q), fun l hl => (P3.ret S).newL S hl r⟩
        | ro q r => exact call_list_of pins s σ H _ _ Q I rs ⟨_, _, rfl, .inl (.inl (.inr ⟨_, q⟩)), fun l hl => (P3.ret S).newL S hl r⟩
        | dK q r => exact call_list_dK G.calm pins s σ H _ _ Q I rs ⟨_, _, rfl, q, fun l hl => (P3.ret S).newL S hl r.keysK⟩
        | dT q r => exact call_list_dT G.calm pins s σ H _ _ Q I rs ⟨_, _, rfl, .inl q, fun l bs hl hb => (P3.ret S).newL S hl (r.keysT hb)⟩
        | _ => exact False.elim P3
      | _ => exact False.elim P
  | nil => exact False.elim P
/-- len(x) -/
theorem len_ok (G : Gd L T n cf E X) : CallR X (.builtin "len") (lD L E (blt .len)) := by
  intro pins s σ H xs us Q I rs ⟨ρ, ah, xs', S, hx, P⟩
  cases hx with
  | cons hx t =>
    cases t with
    | cons _ _ => exact False.elim P
    | nil =>
      cases hx with
      | str z =>
        obtain ⟨h, P⟩ := Post.guard P
        exact call_len_str pins s σ H _ _ Q I rs ⟨z, rfl, ble_line h, P.oldT S (.int _)⟩
      | tup e r =>
        have q := ((Post.bind P).ret S).oldT S (.int _)
        rw [r.length] at q
        exact call_len_seq pins s σ H _ _ Q I rs ⟨_, _, rfl, .inr (SqT.of e), q⟩
      | ref e =>
        obtain ⟨o, _, b1, P3⟩ := Post.rd S e (Post.bind P)
        cases b1 with
        | lst q r =>
          have q2 := (P3.ret S).oldT S (.int _)
          rw [r.length] at q2
          exact call_len_seq pins s σ H _ _ Q I rs ⟨_, _, rfl, .inl (SqL.of q), q2⟩
        | ro q r =>
          have q2 := (P3.ret S).oldT S (.int _)
          rw [r.length] at q2
          exact call_len_seq pins s σ H _ _ Q I rs ⟨_, _, rfl, .inl (.inl (.inr ⟨_, q⟩)), q2⟩
        | dK q r =>
          have q2 := (P3.ret S).oldT S (.int _)
          rw [List.length_map, r.length] at q2
          exact call_lenD pins s σ H _ _ Q I rs ⟨_, _, rfl, q, q2⟩
        | dT q r =>
          have q2 := (P3.ret S).oldT S (.int _)
          rw [List.length_map, r.length] at q2
          exact call_len_dT pins s σ H _ _ Q I rs ⟨_, _, rfl, q, q2⟩
        | _ => exact False.elim P3
      | _ => exact False.elim (show False from P)
  | nil => exact False.elim P
theorem ints_of : ∀ {xs : List Vl} {vs : List V} {k : Int}, Reps L ρ H xs vs → sumI xs = some k → ∃ ns : List Int, vs = ns.map V.int ∧ ns.sum = k
  | _, _, _, .nil, h => ⟨[], rfl, by simpa [sumI] using h⟩
  | _, _, k, .cons (x := x) a t, h => by
    cases a with
    | int i =>
      rw [sumI] at h
      obtain ⟨j, hj, e⟩ := Option.map_eq_some_iff.mp h
      obtain ⟨ns, e1, e2⟩ := ints_of t hj
      exact ⟨i :: ns, by rw [e1]; rfl, by rw [List.sum_cons, e2]; exact e⟩
    | _ => simp [sumI] at h
theorem bools_of : ∀ {xs : List Vl} {vs : List V} {bs : List Bool}, Reps L ρ H xs vs → bools xs = some bs → vs = bs.map V.bl
  | _, _, _, .nil, h => by simp [bools] at h; subst h; rfl
  | _, _, bs, .cons (x := x) a t, h => by
    cases a with
    | bl i =>
      rw [bools] at h
      obtain ⟨j, hj, e⟩ := Option.map_eq_some_iff.mp h
      rw [bools_of t hj, ← e]
      rfl
    | _ => simp [bools] at h
theorem sum_ok (G : Gd L T n cf E X) : CallR X (.builtin "sum") (lD L E (blt .sum)) := by
  intro pins s σ H xs us Q I rs ⟨ρ, ah, xs', S, hx, P⟩
  cases hx with
  | cons hx t =>
    cases hx with
    | ref e =>
      cases t with
      | nil =>
        obtain ⟨o, _, b1, P3⟩ := Post.rd S e P
        cases b1 with
        | lst q r =>
          obtain ⟨k, hk, P⟩ := Post.opt P3
          obtain ⟨ns, e1, e2⟩ := ints_of r hk
          rw [e1] at q
          have q2 := P.oldT S (.int _)
          rw [← e2] at q2
          exact cr_sum G.calm pins s σ H _ _ Q I rs ⟨_, ns, rfl, SqL.of q, q2⟩
        | _ => exact False.elim P3
      | cons _ _ => exact False.elim P
    | _ => cases t <;> exact False.elim P
  | nil => exact False.elim P
theorem all_ok (G : Gd L T n cf E X) : CallR X (.builtin "all") (lD L E (blt .all)) := by
  intro pins s σ H xs us Q I rs ⟨ρ, ah, xs', S, hx, P⟩
  cases hx with
  | cons hx t =>
    cases hx with
    | ref e =>
      cases t with
      | nil =>
        obtain ⟨o, _, b1, P3⟩ := Post.rd S e P
        cases b1 with
        | lst q r =>
          obtain ⟨k, hk, P⟩ := Post.opt P3
          rw [bools_of r hk] at q
          exact cr_all G.calm pins s σ H _ _ Q I rs ⟨_, k, rfl, SqL.of q, P.oldT S (.bl _)⟩
        | _ => exact False.elim P3
      | cons _ _ => exact False.elim P
    | _ => cases t <;> exact False.elim P
  | nil => exact False.elim P
theorem any_ok (G : Gd L T n cf E X) : CallR X (.builtin "any") (lD L E (blt .any)) := by
  intro pins s σ H xs us Q I rs ⟨ρ, ah, xs', S, hx, P⟩
  cases hx with
  | cons hx t =>
    cases hx with
    | ref e =>
      cases t with
      | nil =>
        obtain ⟨o, _, b1, P3⟩ := Post.rd S e P
        cases b1 with
        | lst q r =>
          obtain ⟨k, hk, P⟩ := Post.opt P3
          rw [bools_of r hk] at q
          exact cr_any G.calm pins s σ H _ _ Q I rs ⟨_, k, rfl, SqL.of q, P.oldT S (.bl _)⟩
        | _ => exact False.elim P3
      | cons _ _ => exact False.elim P
    | _ => cases t <;> exact False.elim P
  | nil => exact False.elim P
theorem two_ok {id : String} {b : Blt} {g : Int → Int → Int} (h : CallR X (.builtin id) (fun xs H Q => ∃ i j, xs = [.int i, .int j] ∧ Q (.int (g i j)) H)) (hb : ∀ i j, blt b [.int i, .int j] = ret (.int (g i j))) (hs : ∀ xs, (∀ i j, xs ≠ [.int i, .int j]) → blt b xs = stuck) : CallR X (.builtin id) (lD L E (blt b)) := by
  intro pins s σ H xs us Q I rs ⟨ρ, ah, xs', S, hx, P⟩
  by_cases e : ∃ i j, xs' = [.int i, .int j]
  · obtain ⟨i, j, rfl⟩ := e
    cases hx with
    | cons a t =>
      cases a
      cases t with
      | cons a t =>
        cases a; cases t
        rw [hb] at P
        exact h pins s σ H _ _ Q I rs ⟨i, j, rfl, P.oldT S (.int _)⟩
  · rw [hs xs' fun i j e2 => e ⟨i, j, e2⟩] at P
    exact False.elim P
theorem abs_ok (G : Gd L T n cf E X) : CallR X (.builtin "abs") (lD L E (blt .abs)) := by
  intro pins s σ H xs us Q I rs ⟨ρ, ah, xs', S, hx, P⟩
  cases hx with
  | cons hx t =>
    cases hx with
    | int i =>
      cases t with
      | nil => exact call_abs pins s σ H _ _ Q I rs ⟨i, rfl, P.oldT S (.int _)⟩
      | cons _ _ => exact False.elim P
    | _ => cases t <;> exact False.elim P
  | nil => exact False.elim P
theorem rng1_ok (G : Gd L T n cf E X) : CallR X (.type "range") (lD L E (blt .rng1)) := by
  intro pins s σ H xs us Q I rs ⟨ρ, ah, xs', S, hx, P⟩
  cases hx with
  | cons hx t =>
    cases hx with
    | int i =>
      cases t with
      | nil =>
        obtain ⟨u, rfl, rx⟩ := vals1 rs
        obtain ⟨t, rfl⟩ := rx
        refine call_range_1 ⟨.ref s.heap.objs.size, upd H s.heap.objs.size (.rng 0 i), I.laid (t' := _) (fun b o e => Heap.get?_push_of_some _ e) (Nat.le_refl _) ?_, rfl, Post.newq P S (I.hok.fresh (Nat.le_refl _)) fun _ _ _ e => .rng e⟩
        exact ⟨_, _, _, Heap.get?_push_size _ rfl⟩
      | cons _ _ => exact False.elim P
    | _ => cases t <;> exact False.elim P
  | nil => exact False.elim P
theorem rng2_ok (G : Gd L T n cf E X) : CallR X (.type "range") (lD L E (blt .rng2)) := by
  intro pins s σ H xs us Q I rs ⟨ρ, ah, xs', S, hx, P⟩
  by_cases e : ∃ i j, xs' = [.int i, .int j]
  · obtain ⟨i, j, rfl⟩ := e
    cases hx with
    | cons a t =>
      cases a
      cases t with
      | cons a t =>
        cases a; cases t
        exact cr_range2 pins s σ H _ _ Q I rs ⟨i, j, rfl, fun p hp => Post.newq P S hp fun _ _ _ e => .rng e⟩
  · have hs : blt .rng2 xs' = stuck := by
      unfold blt
      split <;> first | rfl | contradiction | (exfalso; exact e ⟨_, _, rfl⟩)
    rw [hs] at P
    exact False.elim P
theorem int1_ok (G : Gd L T n cf E X) : CallR X (.type "int") (lD L E (blt .int)) := by
  intro pins s σ H xs us Q I rs ⟨ρ, ah, xs', S, hx, P⟩
  cases hx with
  | cons hx t =>
    cases hx with
    | int i =>
      cases t with
      | nil => exact call_int1 pins s σ H _ _ Q I rs (.inl ⟨i, rfl, P.oldT S (.int _)⟩)
      | cons _ _ => exact False.elim P
    | bl k =>
      cases t with
      | nil => exact call_int1 pins s σ H _ _ Q I rs (.inr ⟨k, rfl, P.oldT S (.int _)⟩)
      | cons _ _ => exact False.elim P
    | _ => cases t <;> exact False.elim P
  | nil => exact False.elim P
end
end Ip

set_option Elab.async false
set_option linter.all false
set_option maxRecDepth 100000
set_option maxHeartbeats 4000000
namespace Ip
open PySem PySem.Spec PyProof.Rows L2

/-! ### the plain sort is the library's -/
section
variable {α : Type} {le : α → α → Bool}
theorem ins_mem {x z : α} : ∀ {l : List α}, z ∈ insertBy le x l → z = x ∨ z ∈ l
  | [], h => by simp [insertBy] at h; exact .inl h
  | y :: l, h => by
    rw [insertBy] at h
    split at h
    · rcases List.mem_cons.mp h with h | h
      · exact .inl h
      · exact .inr h
    · rcases List.mem_cons.mp h with h | h
      · exact .inr (by rw [h]; exact List.mem_cons_self)
      · rcases ins_mem h with h | h
        · exact .inl h
        · exact .inr (List.mem_cons_of_mem _ h)
theorem ins_sorted (t : PySem.W.TotalLe le) {x : α} : ∀ {l : List α}, l.Pairwise (fun a b => le a b = true) → (insertBy le x l).Pairwise (fun a b => le a b = true)
  | [], _ => by simp [insertBy]
  | y :: l, h => by
    rw [insertBy]
    rw [List.pairwise_cons] at h
    split
    · rename_i hxy
      rw [List.pairwise_cons]
      refine ⟨fun z hz => ?_, List.pairwise_cons.mpr h⟩
      rcases List.mem_cons.mp hz with e | hz
      · rw [e]; exact hxy
      · exact t.trans _ _ _ hxy (h.1 z hz)
    · rename_i hxy
      rw [List.pairwise_cons]
      refine ⟨fun z hz => ?_, ins_sorted t h.2⟩
      rcases ins_mem hz with e | hz
      · rw [e]; exact (t.total x y).resolve_left hxy
      · exact h.1 z hz
theorem ins_filter (t : PySem.W.TotalLe le) {x c : α} : ∀ {l : List α}, (insertBy le x l).filter (PySem.W.sameRank le c) = (x :: l).filter (PySem.W.sameRank le c)
  | [] => rfl
  | y :: l => by
    rw [insertBy]
    split
    · rfl
    · rename_i hxy
      rw [List.filter_cons, ins_filter t, List.filter_cons, List.filter_cons, List.filter_cons]
      by_cases h1 : PySem.W.sameRank le c x = true
      · by_cases h2 : PySem.W.sameRank le c y = true
        · exfalso
          unfold PySem.W.sameRank at h1 h2
          rw [Bool.and_eq_true] at h1 h2
          exact hxy (t.trans _ _ _ h1.2 h2.1)
        · simp [h1, h2]
      · simp [h1]
theorem isort_merge (t : PySem.W.TotalLe le) (l : List α) : isort le l = l.mergeSort le := by
  refine PySem.W.sort_unique t ?_ fun c => ?_
  · induction l with
    | nil => simp [isort]
    | cons x l ih => exact ins_sorted t ih
  · induction l with
    | nil => rfl
    | cons x l ih =>
      rw [isort, ins_filter t, List.filter_cons, List.filter_cons, ih]
end
section
variable {L : Lw} {T : List Fn} {n : Nat} {cf : Orc} {E : XK} {X : Cx} {ρ : List Addr} {H : Hp} {ah : AH} {α β : Type}
/-- the items with their data -/
structure It3 (L : Lw) (ρ : List Addr) (H : Hp) (v : Value) (b : (Vl × PyData) × V) : Prop where
  rel : L2.RelV b.2 v
  rep : Rep L ρ H b.1.1 b.2
theorem each3 {ρ : List Addr} {H : Hp} : ∀ {xs : List Vl} {ys : List V} {us : List Value} {ds : List PyData}, Reps L ρ H xs ys → L2.Vals ys us → ds.length = xs.length → PySem.W.EachIs (It3 L ρ H) us ((xs.zip ds).zip ys)
  | _, _, _, [], .nil, .nil, _ => .nil
  | _, _, _, d :: ds, .cons a t, .cons r rt, h => .cons ⟨r, a⟩ (each3 t rt (by simpa using h))
  | _, _, _, _ :: _, .nil, .nil, h => by simp at h
  | _, _, _, [], .cons _ _, .cons _ _, h => by simp at h
theorem out3 {ρ : List Addr} {H : Hp} : ∀ {us : List Value} {bs : List ((Vl × PyData) × V)}, PySem.W.EachIs (It3 L ρ H) us bs → Reps L ρ H (bs.map (·.1.1)) (bs.map (·.2)) ∧ L2.Vals (bs.map (·.2)) us
  | _, _, .nil => ⟨.nil, .nil⟩
  | _, _, .cons h t => ⟨.cons h.rep (out3 t).1, .cons h.rel (out3 t).2⟩
theorem datl_len {f : Vl → Option PyData} : ∀ {xs : List Vl} {ds : List PyData}, datl f xs = some ds → ds.length = xs.length
  | [], _, h => by simp [datl] at h; subst h; rfl
  | x :: xs, ds, h => by
    rw [datl] at h
    split at h
    · rename_i d' ds' h1 h2
      cases h
      simp [datl_len h2]
    · cases h
theorem zip_fst {α β : Type} : ∀ {xs : List α} {ys : List β}, ys.length = xs.length → (xs.zip ys).map (·.1) = xs
  | [], _, _ => by simp
  | x :: xs, [], h => by simp at h
  | x :: xs, y :: ys, h => by simp [zip_fst (by simpa using h : ys.length = xs.length)]
theorem zip_snd {α β : Type} : ∀ {xs : List α} {ys : List β}, ys.length = xs.length → (xs.zip ys).map (·.2) = ys
  | [], [], _ => by simp
  | [], _ :: _, h => by simp at h
  | x :: xs, [], h => by simp at h
  | x :: xs, y :: ys, h => by simp [zip_snd (by simpa using h : ys.length = xs.length)]
theorem reads3 {pins : List (Addr × Obj)} {s : Shared} {σ : L2.St} (I : L2.Inv X pins σ H s) {h2 : Heap} (hk : ∀ b o, s.heap.get? b = some o → h2.get? b = some o) :
    ∀ {xs : List Vl} {ys : List V} {us : List Value} {ds : List PyData}, Reps L ρ H xs ys → L2.Vals ys us → DpAll X.K H ys ds → PySem.W.EachIs (fun v (b : (Vl × PyData) × V) => ∃ as, PySem.Reads h2 v b.1.2 as) us ((xs.zip ds).zip ys)
  | _, _, _, _, .nil, .nil, .nil => .nil
  | _, _, _, _, .cons a t, .cons r rt, .cons d dt => by
    obtain ⟨as, ra⟩ := Dp.reads I _ _ _ d r
    exact .cons ⟨as, PyProof.Rows.Reads.keeps hk ra⟩ (reads3 I hk t rt dt)
theorem sortable_ok {ds : List PyData} (h : sortable ds = true) : PySem.W.AllAlike ds ∧ PySem.W.Sortable ds ∧ ∀ d ∈ ds, d.depth ≤ 60 := by
  unfold sortable at h
  simp only [Bool.and_eq_true, List.all_eq_true, Bool.or_eq_true, allAlike, decide_eq_true_eq] at h
  obtain ⟨⟨h1, h2⟩, h3⟩ := h
  refine ⟨fun d hd e he => h1 d hd e he, ?_, h3⟩
  rcases h2 with h2 | h2
  · refine .inl fun d hd => ?_
    have := h2 d hd
    unfold neTup at this
    split at this
    · exact ⟨_, _, rfl⟩
    · cases this
  · refine .inr fun d hd => ?_
    have := h2 d hd
    unfold plainD at this
    split at this
    · cases this
    · cases this
    · rename_i h1 h2
      exact ⟨h1, fun xs e => h2 xs e⟩
/-- sorted of what can be gathered -/
theorem sorted_from (G : Gd L T n cf E X) {pins : List (Addr × Obj)} {s : Shared} {σ : L2.St} {a : Addr} {xs : List Vl} {Q : VK} (P : Post L E ρ H (srtV xs ah) (VQ L Q))
    (hh : X.A.handled = none)
    (hcol : ∀ (A : Around) (R : List Value → Shared → Prop) (E' : Value → Shared → Prop), A.handled = none →
      (∀ (us : List Value) (h' : Heap) (tk : Nat) (ys : List V) (H' : Hp), L2.Inv X pins σ H' { s with heap := h', toks := tk } → Step ρ H ρ H' → Sim L ρ H' ah → Reps L ρ H' xs ys → L2.Vals ys us → R us { s with heap := h', toks := tk }) → wpAny (model X.prog X.w) A (collect (.ref a)) R E' s) :
    wpAny (model X.prog X.w) X.A (call (.builtin "sorted") [.ref a]) (L2.EP X pins σ Q) X.xe s := by
  unfold srtV at P
  cases hds : datl (dat 60 ah) xs with
  | none => simp only [hds] at P; exact False.elim P
  | some ds =>
    simp only [hds] at P
    split at P
    · rename_i hs
      obtain ⟨hs, hl⟩ := Bool.and_eq_true_iff.mp hs
      obtain ⟨hal, hk, hdp⟩ := sortable_ok hs
      have hl := ble_line hl
      have hdl := datl_len hds
      refine Calls.call_function_entry PyProof.Rows.kind_sorted PyProof.Rows.plain_sorted PyProof.Rows.entry_sorted (PyProof.Rows.args_sorted1 _) ?_
      unfold Builtin.«sorted»
      refine wpAny_bind (m := checkCount "sorted" 1 1 _) (wpAny_pure ?_)
      refine wpAny_bind (hcol X.A.in1 _ _ hh fun us h' tk ys H' I' stH S r rv => ?_)
      have dps : DpAll X.K H' ys ds := by rw [G.K]; exact dps_of S 60 r hds
      have hyl : ys.length = xs.length := r.length.symm
      have hul : us.length = xs.length := by rw [← rv.length]; exact hyl
      refine wpAny_bind (wpAny_newList ?_ (by rw [hul]; exact hl))
      have hoL : (h'.push (seqObj "list" us.toArray 0)).get? h'.objs.size = some (seqObj "list" us.toArray 0) := Heap.get?_push_size _ rfl
      have hkp : ∀ b o, h'.get? b = some o → (PySem.W.sortingHeap (h'.push (seqObj "list" us.toArray 0)) h'.objs.size us).get? b = some o := fun b o e => PySem.W.sortingHeap_old (Nat.ne_of_lt (Heap.lt_size e)) (Heap.get?_push_of_some _ e)
      have er := reads3 (L := L) (ρ := ρ) I' hkp r rv dps
      have ez : (((xs.zip ds).zip ys).map fun b => b.1.2) = ds := by
        have : ((xs.zip ds).zip ys).map (fun b => b.1.2) = (((xs.zip ds).zip ys).map (·.1)).map (·.2) := by rw [List.map_map]; rfl
        rw [this, zip_fst (by rw [List.length_zip, hdl, Nat.min_self]; exact hyl), zip_snd hdl]
      have hal' : PySem.W.AllAlike (((xs.zip ds).zip ys).map fun b => b.1.2) := by rw [ez]; exact hal
      have hk' : PySem.W.Sortable (((xs.zip ds).zip ys).map fun b => b.1.2) := by rw [ez]; exact hk
      have hub : ∀ A' : Around, A'.units ≤ X.A.units + 2 → ∀ d, d ∈ ((xs.zip ds).zip ys).map (fun b => b.1.2) → A'.units + d.depth < cLine := fun A' hA d hd => by
        rw [ez] at hd
        have := hdp d hd
        have := G.u64
        have := G.room.un
        omega
      show wpAny _ _ _ _ _ { s with heap := h'.push (seqObj "list" us.toArray 0), toks := tk }
      refine wpAny_bind (wpAny_holding (wpAny_call_entry PyProof.Rows.slot_list_sort ⟨_, hoL, rfl⟩ PyProof.Rows.entry_list_sort
        (PySem.W.list_sort_vals (s := { s with heap := h'.push (seqObj "list" us.toArray 0), toks := tk }) hoL
          (PySem.W.SortsAt.data (s := { s with heap := PySem.W.sortingHeap (h'.push (seqObj "list" us.toArray 0)) h'.objs.size us, toks := tk }) (PySem.W.each_map (R := fun v d => ∃ as, PySem.Reads (PySem.W.sortingHeap (h'.push (seqObj "list" us.toArray 0)) h'.objs.size us) v d as) (fun b : (Vl × PyData) × V => b.1.2) er) hal' hk' (hub _ ?_)) (by rw [hul]; exact hl) ⟨_, rfl, ?_⟩)
        (PyProof.Rows.args_list_sort _)))
      · show X.A.units + 1 + 1 ≤ _; omega
      have e3 := PySem.W.sortVals_data (enc := fun b : (Vl × PyData) × V => b.1.2) false (each3 r rv hdl) er hal'
      obtain ⟨o1, o2⟩ := out3 e3
      obtain ⟨e', he'⟩ := PyProof.Rows.sortedHeap_at (vs := us) (out := (PySem.W.sortVals (PySem.W.dataKind (PySem.W.sortingHeap (h'.push (seqObj "list" us.toArray 0)) h'.objs.size us) (((xs.zip ds).zip ys).map fun b => b.1.2)) false us us).toArray) hoL
      have hlen := o2.length
      have hz : ((((xs.zip ds).zip ys).mergeSort (PySem.W.dataLe false fun b : (Vl × PyData) × V => b.1.2)).map (·.2)).length ≤ sizeLine := by
        rw [List.length_map, (List.mergeSort_perm _ _).length_eq, List.length_zip, List.length_zip, hdl, hyl]
        simpa using hl
      have em : (((xs.zip ds).zip ys).mergeSort (PySem.W.dataLe false fun b : (Vl × PyData) × V => b.1.2)).map (·.1.1) = (isort leP (xs.zip ds)).map (·.1) := by
        have t : PySem.W.TotalLe leP := PySem.W.sortLe_total (PyProof.Rows.listOrd PyProof.Rows.itemOrd) false (fun p : Vl × PyData => PySem.W.keyToks p.2)
        rw [isort_merge t]
        have := PySem.W.sort_maps (r := PySem.W.dataLe false fun b : (Vl × PyData) × V => b.1.2) (s := leP) (fun b : (Vl × PyData) × V => b.1) (l := (xs.zip ds).zip ys) (fun _ _ _ _ => rfl)
        rw [zip_fst (by rw [List.length_zip, hdl, Nat.min_self]; exact hyl)] at this
        rw [← this, List.map_map]
        rfl
      rw [em] at o1
      refine wpAny_pure ⟨_, rfl, .ref h'.objs.size, upd H' h'.objs.size (.lst _), I'.laid (t' := tk) (fun b u e => ?_) (Nat.le_refl _)
        (show ObjOk X.prog X.w _ _ _ (.lst _) from ⟨hz, _, e', o2, he'⟩), rfl, Post.newL (Post.move P S stH) S (I'.hok.fresh (Nat.le_refl _)) o1⟩
      have hb : b < h'.objs.size := Heap.lt_size e
      rw [PyProof.Rows.sortedHeap_old (Nat.ne_of_lt hb) (by rw [size_push']; exact Nat.lt_succ_of_lt hb)]
      exact Heap.get?_push_of_some _ e
    · exact False.elim P
theorem sorted_ok (G : Gd L T n cf E X) : CallR X (.builtin "sorted") (lD L E (blt .sorted)) := by
  intro pins s σ H xs us Q I rs ⟨ρ, ah, xs', S, hx, P⟩
  cases hx with
  | cons hx t =>
    cases t with
    | cons _ _ => exact False.elim P
    | nil =>
      obtain ⟨u, rfl, rx⟩ := vals1 rs
      obtain ⟨zs, ys, a, T', r2, P4, rfl, hz, ht, hT, _, hcol⟩ := col G I rx S hx (Post.bind P)
      exact sorted_from G P4 (I.ok.hd G.calm) fun A R E' hA h => hcol A R E' hA fun us h' tk I' _ rv => h us h' tk ys H I' Step.refl S r2 rv
  | nil => exact False.elim P
end
end Ip

set_option Elab.async false
set_option linter.all false
set_option maxRecDepth 100000
set_option maxHeartbeats 4000000
namespace PySem
open Sem (wp)
theorem ip_enum_new {v : Value} {o : Obj} {H : Heap → Prop} (B : Begins v o H) :
    Meets (Builtin.«enumerate.__new__» ⟨[.type "enumerate", v], []⟩) (fun _ R s => H s.heap ∧
      R (.ok (.ret (.ref (s.heap.push o).objs.size))) { s with heap := (s.heap.push o).push { cls := .type "enumerate", data := .fields #[.none, .bool false, .ref s.heap.objs.size, rawInt 0, .none, .none] } }) :=
  .of_wp fun prog w A R s h => by
    obtain ⟨hp, g, d, tk, os⟩ := s; obtain ⟨h1, h⟩ := h
    have hsub := sub_enumerate
    have q1 : ∀ {A' : Around} {E : Value → Shared → Prop} {Q : Value → Shared → Prop}, Q (.ref hp.objs.size) ⟨hp.push o, g, d, tk, os⟩ → wpAny (model prog w) A' (pyIter v) Q E ⟨hp, g, d, tk, os⟩ :=
      fun q => B.iter prog w _ _ ⟨hp, g, d, tk, os⟩ _ h1 q
    wp_walk using q1
    refine wpAny_stack_any fun st => wpAny_pure ?_
    split
    · rename_i c _ _ _ _ _
      cases (c == Value.type "enumerate")
      · wp_walk using q1
        exact ⟨_, rfl, h⟩
      · wp_walk using q1
        exact ⟨_, rfl, h⟩
    · wp_walk using q1
      exact ⟨_, rfl, h⟩
theorem ip_enum_begins {prog : Program} {w : World} {A : Around} {E : Value → Shared → Prop} {s : Shared} {v : Value} {o : Obj} {H : Heap → Prop} {Q : Value → Shared → Prop} (B : Begins v o H) (h1 : H s.heap)
    (h : ∀ h', IsEnum h' (s.heap.objs.size + 1) s.heap.objs.size 0 .none → h'.get? s.heap.objs.size = some o → h'.objs.size = s.heap.objs.size + 2 →
      (∀ b o, s.heap.get? b = some o → h'.get? b = some o) → Q (.ref (s.heap.objs.size + 1)) { s with heap := h' }) :
    wpAny (model prog w) A (call (.type "enumerate") [v]) Q E s := by
  refine callType_new F.called_enumerate (by decide) (F.typeCall_enumerate_1 _) (F.newCall_enumerate_1 _) (fun obj => F.args_object_init_2 obj _) F.entry_enumerate_new
    (ip_enum_new B) ⟨h1, ?_⟩
  have hz : (s.heap.push o).objs.size = s.heap.objs.size + 1 := Heap.size_push ..
  show _ ∧ _
  rw [hz]
  have he : IsEnum ((s.heap.push o).push { cls := .type "enumerate", data := .fields #[.none, .bool false, .ref s.heap.objs.size, rawInt 0, .none, .none] }) (s.heap.objs.size + 1) s.heap.objs.size 0 .none := by
    have := Heap.get?_push_size (s.heap.push o) (o := { cls := .type "enumerate", data := .fields #[.none, .bool false, .ref s.heap.objs.size, rawInt 0, .none, .none] }) rfl
    rw [hz] at this; exact this
  refine ⟨⟨_, he, rfl⟩, h _ he (Heap.get?_push_of_some _ (Heap.get?_push_size _ B.free)) (by rw [Heap.size_push, hz]) fun b o x => Heap.get?_push_of_some _ (Heap.get?_push_of_some _ x)⟩
end PySem
namespace Ip
open PySem PySem.Spec PyProof.Rows L2

/-! ### enumerate(tuple) -/
def IteT (K : PySem.W.Frag) (a : Addr) : It :=
  ⟨fun i H => ∃ (xs : List V) (x : V), SqT K H a xs ∧ xs[i]? = some x, fun i H v H' => ∃ T x, v = .ref T ∧ H T = none ∧ H' = upd H T (.tup [.int (i : Nat), x]) ∧ ∀ xs, SqT K H a xs → xs[i]? = some x, fun i H => ∃ xs : List V, SqT K H a xs ∧ xs.length ≤ i⟩
theorem turn_enumT {P : Program} {w : World} {K : PySem.W.Frag} {elts : List Expr} {kk : Nat} {tpos : Pos} (a e it : Addr) (hei : a ≠ it) (hea : a ≠ e) :
    Turn P w K (.Tuple elts kk tpos) (IteT K a) [e, it] e (fun i h => (∃ old, IsEnum h e it ((i : Nat) : Int) old) ∧ h.IsTupleIter it a i ∧ e ≠ it) where
  mem := by simp
  obj := fun i h st b hb => by
    obtain ⟨⟨old, he⟩, ⟨o, ho, hc, hd⟩, _⟩ := st
    have e' : b = e ∨ b = it := by simpa using hb
    rcases e' with z | z
    · rw [z]; exact ⟨_, he, fun v q => nomatch q⟩
    · rw [z]; exact ⟨o, ho, fun v q => by rw [hd] at q; cases q⟩
  keep := fun i h h' st k => let ⟨⟨old, he⟩, hi, hne⟩ := st; ⟨⟨old, k e (by simp) _ he⟩, hi.at fun o q => k it (by simp) o q, hne⟩
  item := by
    intro X hP hw hK hc i pins s σ H E I hf st hg
    subst hP hw hK
    obtain ⟨⟨old, he⟩, hit, hne⟩ := st
    obtain ⟨xs, x, hq, hx⟩ := hg
    obtain ⟨its, rv, p, hz⟩ := I.tuple hq
    obtain ⟨u, hu, ru⟩ := rv.get hx
    have hel : e < s.heap.objs.size := Heap.lt_size he
    have hil : it < s.heap.objs.size := by obtain ⟨_, q, _⟩ := hit; exact Heap.lt_size q
    have hlt : i < its.toArray.size := by
      rw [List.size_toArray]
      exact (List.getElem?_eq_some_iff.mp hu).1
    have D := Draws.tuple (prog := X.prog) (w := X.w) (A := X.A.in1) (I.ok.hd hc) it a hei its.toArray
    refine wpAny_pyNext_enum_itemC D he ⟨hit, (show s.heap.IsTuple a its.toArray from p)⟩ hlt hne (by simp [hea.symm, hne]) fun x' h' tk hP ho hit' hT hsz hk => ?_
    have ex : x' = u := by
      have : its.toArray[i]? = some u := by simpa using hu
      rw [this] at hP
      exact (Option.some.inj hP).symm
    subst ex
    refine ⟨_, rfl, wpAny_letOwnedTupleGo_enum (s := { s with heap := h', toks := tk + 1 }) ho fun h'' he' sb => ?_⟩
    have hT2 : h''.get? s.heap.objs.size = some { cls := .type "tuple", data := .seq #[.int i tk, x'] } := (sb.2 _ (Nat.ne_of_gt hel)).trans hT
    have new : ObjOk X.prog X.w (upd H s.heap.objs.size (.tup [.int (i : Nat), x])) h'' s.heap.objs.size (.tup [.int (i : Nat), x]) :=
      ⟨by show 2 ≤ sizeLine; decide, [.int i tk, x'], .cons ⟨_, rfl⟩ (.cons ru .nil), ⟨_, hT2, rfl, _, rfl⟩⟩
    have I1 : L2.Inv X pins σ (upd H s.heap.objs.size (.tup [.int (i : Nat), x])) { s with heap := h'', toks := tk + 1 } :=
      I.turnedNew (ch := [e, it]) (fun b ob hb q => (sb.2 b (fun z => hb (by simp [z]))).trans (hk b ob (fun z => hb (by simp [z])) (fun z => hb (by simp [z])) q)) hf (Nat.le_refl _) new
    refine ⟨.ref s.heap.objs.size, _, I1, rfl, ⟨_, x, rfl, I.hok.fresh (Nat.le_refl _), rfl, fun ys hy => by rw [I.tuple_inj hy hq]; exact hx⟩, ⟨⟨x', ?_⟩, hit'.1.at fun o q => (sb.2 it (Ne.symm hne)).trans q, hne⟩, fun b hb => ?_⟩
    · have e1 : ((i + 1 : Nat) : Int) = (i : Int) + 1 := by omega
      rw [e1]; exact he'
    · have hb' : b < s.heap.objs.size := by
        have e' : b = e ∨ b = it := by simpa using hb
        rcases e' with z | z
        · rw [z]; exact hel
        · rw [z]; exact hil
      rw [upd_ne (Nat.ne_of_lt hb')]
      exact (hf b hb).1
  done := by
    intro X hP hw hK hc i pins s σ H E I hf st hg
    subst hP hw hK
    obtain ⟨⟨old, he⟩, hit, hne⟩ := st
    obtain ⟨xs, hq, hx⟩ := hg
    obtain ⟨its, rv, p, hz⟩ := I.tuple hq
    obtain ⟨f0, f1, f2, f3, f4, f5⟩ := hf it (by simp)
    have hl := rv.length
    have hT : s.TypeIs (.ref e) "enumerate" := ⟨_, he, rfl⟩
    unfold pyNext
    refine wpAny_bind (wpAny_attempt (wpAny_callSpecial?_slot (name := Str.ofString "__next__") hT F.slot_enumerate_next
      (wpAny_call_entry F.slot_enumerate_next hT F.entry_enumerate_next ?_ (F.args_enumerate_next_1 _))))
    show wpAny _ _ (field (.ref e) 2 >>= _) _ _ _
    refine wpAny_bind (wpAny_field he rfl (x := .ref it) rfl ?_)
    refine wpAny_bind (wpAny_nextOf_tuple_end (I.ok.hd hc) hit (show s.heap.IsTuple a its.toArray from p) (by simp; omega) fun h' x he' hx' => ?_)
    obtain ⟨o, ho, hc'⟩ := hx'
    refine wpAny_bind (wpAny_isInstance (T := "StopIteration") (b := true) ⟨o, ho, hc'⟩ isSubtype_stop ?_)
    exact wpAny_pure ⟨rfl, I.turned (t' := s.toks) (fun b o hb q => he' b o hb q) f0 f1 f3 f4 f5⟩
  self := fun A i s Q E st h => let ⟨⟨_, he⟩, _⟩ := st; wpAny_pyIter_enum he h
section
variable {X : Cx} {tg : Expr}
def iAny (K : PySem.W.Frag) (tl : TE) : TI := fun σ H R => tl σ H fun x H1 => ∃ a, x = .ref a ∧ (((∃ xs, SqL K H1 a xs) ∧ R (Itl K a) H1) ∨ ((∃ xs, SqT K H1 a xs) ∧ R (Itt K a) H1))
theorem pi_any {l : Expr} {tl : TE} (hl : PE X l tl) : PI X tg l (iAny X.K tl) := by
  refine ⟨fun pins s σ H R I h => ?_⟩
  refine thn (hl.run pins s σ H _ I h) fun v s1 ⟨x, H1, I1, r1, q1⟩ => ?_
  obtain ⟨a, e, q1⟩ := q1
  subst e
  cases r1
  have fp : ∀ b ∈ [s1.heap.objs.size], FpOk X pins H1 b := fun b hb => by
    have e : b = s1.heap.objs.size := by simpa using hb
    subst e
    exact I1.fpOk (Nat.le_refl _) (I1.hok.fresh (Nat.le_refl _))
  rcases q1 with ⟨⟨xs, hq⟩, q⟩ | ⟨⟨xs, hq⟩, q⟩
  · obtain ⟨its, rv, p, hz⟩ := I1.list hq
    refine wpAny_pyIter_list p.isList ?_
    exact ⟨s1.heap.objs.size, [s1.heap.objs.size], _, _, H1, rfl, I1.kept (t' := s1.toks) fun b o e => Heap.get?_push_of_some _ e, turn_list a _, ⟨_, Heap.get?_push_size _ rfl, rfl, rfl⟩, fp, q⟩
  · obtain ⟨its, rv, p, hz⟩ := I1.tuple hq
    refine wpAny_pyIter_tuple (show s1.heap.IsTuple a its.toArray from p) ?_
    exact ⟨s1.heap.objs.size, [s1.heap.objs.size], _, _, H1, rfl, I1.kept (t' := s1.toks) fun b o e => Heap.get?_push_of_some _ e, turn_tuple a _, ⟨_, Heap.get?_push_size _ rfl, rfl, rfl⟩, fp, q⟩
def iEnumA (K : PySem.W.Frag) (ta : TA) : TI := fun σ H R => ta σ H fun vs H1 => ∃ a, vs = [.ref a] ∧ (((∃ xs, SqL K H1 a xs) ∧ R (Ite K a) H1) ∨ ((∃ xs, SqT K H1 a xs) ∧ R (IteT K a) H1))
theorem pi_enumA {e : Expr} {ta : TA} {p pos tpos : Pos} {elts : List Expr} {kk : Nat} (hg : Gl X "enumerate") (hm : X.mg "enumerate" = none) (ha : PA X [e] ta) (hs : starEach [e] X.env = [(false, eval e X.env)]) :
    PI X (.Tuple elts kk tpos) (.Call (.Name "enumerate" p) [e] [] pos) (iEnumA X.K ta) := by
  refine ⟨fun pins s σ H R I h => ?_⟩
  refine Call_ (ld_blt I hg hm boot_enumerate (PyProof.Rows.callWith_type1 (thn (ha.run pos pins s σ H _ I h) fun us s1 ⟨vs, H1, I1, r1, q1⟩ => ?_) hs rfl))
  obtain ⟨a, ex, q1⟩ := q1
  subst ex
  cases r1 with
  | cons r rr =>
    cases rr
    cases r
    have fp : ∀ b ∈ [s1.heap.objs.size + 1, s1.heap.objs.size], FpOk X pins H1 b := fun b hb => by
      have e' : b = s1.heap.objs.size + 1 ∨ b = s1.heap.objs.size := by simpa using hb
      have hle : s1.heap.objs.size ≤ b := by
        rcases e' with z | z
        · rw [z]; exact Nat.le_add_right _ _
        · rw [z]; exact Nat.le_refl _
      exact I1.fpOk hle (I1.hok.fresh hle)
    rcases q1 with ⟨⟨xs, hq⟩, q⟩ | ⟨⟨xs, hq⟩, q⟩
    · obtain ⟨its, rv, p', hz⟩ := I1.list hq
      refine call_enumerate_list p'.isList fun h' he hit hsz hk => wpAny_pyIter_enum he ?_
      have I2 : L2.Inv X pins σ H1 { s1 with heap := h' } := I1.kept (t' := s1.toks) hk
      exact ⟨s1.heap.objs.size + 1, [s1.heap.objs.size + 1, s1.heap.objs.size], _, _, H1, rfl, I2, turn_enum a (s1.heap.objs.size + 1) s1.heap.objs.size, ⟨⟨.none, he⟩, hit, Nat.succ_ne_self _⟩, fp, q⟩
    · obtain ⟨its, rv, p', hz⟩ := I1.tuple hq
      have hal : a < s1.heap.objs.size := by obtain ⟨o, ho, _⟩ := id p'; exact Heap.lt_size ho
      refine ip_enum_begins (begins_tuple a its.toArray) (show s1.heap.IsTuple a its.toArray from p') fun h' he hit hsz hk => wpAny_pyIter_enum he ?_
      have I2 : L2.Inv X pins σ H1 { s1 with heap := h' } := I1.kept (t' := s1.toks) hk
      exact ⟨s1.heap.objs.size + 1, [s1.heap.objs.size + 1, s1.heap.objs.size], _, _, H1, rfl, I2, turn_enumT a (s1.heap.objs.size + 1) s1.heap.objs.size (Nat.ne_of_lt hal) (Nat.ne_of_lt (Nat.lt_succ_of_lt hal)), ⟨⟨.none, he⟩, ⟨_, hit, rfl, rfl⟩, Nat.succ_ne_self _⟩, fp, q⟩
end
/-! ### methods -/
section
variable {L : Lw} {T : List Fn} {n : Nat} {cf : Orc} {E : XK} {X : Cx} {ρ : List Addr} {H : Hp} {ah : AH} {α β : Type}
def mD (L : Lw) (E : XK) (m : Mth) : V → List V → Hp → VK → Prop := fun x xs H Q => ∃ ρ ah x' xs', Sim L ρ H ah ∧ Rep L ρ H x' x ∧ Reps L ρ H xs' xs ∧ Post L E ρ H (mth m x' xs' ah) (VQ L Q)
theorem append_ok (G : Gd L T n cf E X) : MtR X "list.append" (mD L E .append) := by
  intro pins s σ H x xs v us Q I rx rs ⟨ρ, ah, x', xs', S, hx, hxs, P⟩
  cases hx with
  | ref e =>
    cases hxs with
    | nil => exact False.elim P
    | cons a t =>
      cases t with
      | cons _ _ => exact False.elim P
      | nil =>
        obtain ⟨o, _, b1, P⟩ := Post.rd S e P
        cases b1 with
        | @lst zs vs _ q r =>
          obtain ⟨h, P⟩ := Post.guard P
          obtain ⟨S2, st2, P2⟩ := P.wr (ho := .lst (vs ++ [_])) S e fun H' st e2 => .lst e2 ((r.step S st).snoc (a.step S st))
          have hl : vs.length < sizeLine := by rw [← r.length, ← line_eq]; exact Nat.le_of_ble_eq_true h
          exact mt_append pins s σ H _ _ v us Q I rx rs ⟨_, _, _, rfl, rfl, q, hl, P2.oldT S2 .non⟩
        | _ => exact False.elim P
  | _ => exact False.elim P
theorem extend_ok (G : Gd L T n cf E X) : MtR X "list.extend" (mD L E .extend) := by
  intro pins s σ H x xs v us Q I rx rs ⟨ρ, ah, x', xs', S, hx, hxs, P⟩
  cases hx with
  | ref e =>
    cases hxs with
    | nil => exact False.elim P
    | cons a t =>
      cases t with
      | cons _ _ => cases a <;> exact False.elim P
      | nil =>
        cases a with
        | ref e2 =>
          obtain ⟨o, _, b1, P⟩ := Post.rd S e P
          obtain ⟨o2, _, b2, P⟩ := Post.rd S e2 P
          cases b1 with
          | @lst zs vs _ q r =>
            cases b2 with
            | @lst zs2 vs2 _ q2 r2 =>
              obtain ⟨h, P⟩ := Post.guard P
              obtain ⟨S2, st2, P2⟩ := P.wr (ho := .lst (vs ++ vs2)) S e fun H' st e2 => .lst e2 ((r.step S st).append (r2.step S st))
              have hl : vs.length + vs2.length ≤ sizeLine := by rw [← r.length, ← r2.length]; exact ble_line h
              exact mt_extend pins s σ H _ _ v us Q I rx rs ⟨_, _, _, _, rfl, rfl, q, q2, hl, P2.oldT S2 .non⟩
            | _ => exact False.elim P
          | _ => cases b2 <;> exact False.elim P
        | _ => exact False.elim P
  | _ => exact False.elim P
theorem Reps.dropLast : ∀ {xs : List Vl} {vs : List V}, Reps L ρ H xs vs → Reps L ρ H xs.dropLast vs.dropLast
  | _, _, .nil => .nil
  | _, _, .cons a .nil => .nil
  | _, _, .cons a (.cons b t) => .cons a (Reps.dropLast (.cons b t))
theorem Reps.erase : ∀ {xs : List Vl} {vs : List V} (i : Nat), Reps L ρ H xs vs → Reps L ρ H (xs.eraseIdx i) (vs.eraseIdx i)
  | _, _, _, .nil => .nil
  | _, _, 0, .cons _ t => t
  | _, _, i + 1, .cons a t => .cons a (Reps.erase i t)
theorem pop_ok (G : Gd L T n cf E X) : MtR X "list.pop" (mD L E .pop) := by
  intro pins s σ H x xs v us Q I rx rs ⟨ρ, ah, x', xs', S, hx, hxs, P⟩
  cases hx with
  | ref e =>
    cases hxs with
    | nil =>
      obtain ⟨o, _, b1, P⟩ := Post.rd S e P
      cases b1 with
      | @lst zs vs _ q r =>
        cases hy : zs[zs.length - 1]? with
        | none => simp only [hy] at P; exact False.elim P
        | some y =>
          simp only [hy] at P
          obtain ⟨w, hw, rw'⟩ := r.get hy
          rw [r.length] at hw
          obtain ⟨S2, st2, P2⟩ := P.wr (ho := .lst vs.dropLast) S e fun H' st e2 => .lst e2 (r.step S st).dropLast
          exact mt_pop pins s σ H _ _ v us Q I rx rs ⟨_, _, _, rfl, rfl, q, hw, P2.oldT S2 (rw'.step S st2)⟩
      | _ => exact False.elim P
    | cons a t =>
      cases t with
      | cons _ _ => cases a <;> exact False.elim P
      | nil =>
        cases a with
        | int k =>
          obtain ⟨o, _, b1, P⟩ := Post.rd S e P
          cases b1 with
          | @lst zs vs _ q r =>
            obtain ⟨h, P⟩ := Post.guard P
            obtain ⟨h1, h2⟩ := Bool.and_eq_true_iff.mp h
            have h1 := of_decide_eq_true h1
            have h2 := of_decide_eq_true h2
            cases hj : seqIndex? k zs.length with
            | none => simp only [hj] at P; exact False.elim P
            | some j =>
              simp only [hj] at P
              cases hy : zs[j]? with
              | none => simp only [hy] at P; exact False.elim P
              | some y =>
                simp only [hy] at P
                obtain ⟨w, hw, rw'⟩ := r.get hy
                rw [r.length] at hj
                obtain ⟨S2, st2, P2⟩ := P.wr (ho := .lst (vs.eraseIdx j)) S e fun H' st e2 => .lst e2 ((r.step S st).erase j)
                exact mt_popAt pins s σ H _ _ v us Q I rx rs ⟨_, _, k, j, _, rfl, rfl, q, by omega, by omega, hj, hw, P2.oldT S2 (rw'.step S st2)⟩
          | _ => exact False.elim P
        | _ => exact False.elim P
  | _ => cases hxs <;> exact False.elim P
theorem RO2.getD {r : Option Vl} {r' : Option V} {d' : Vl} {d : V} (h : RO2 L ρ H r r') (hd : Rep L ρ H d' d) : Rep L ρ H (r.getD d') (r'.getD d) := by
  cases r with
  | none =>
    cases r' with
    | none => exact hd
    | some _ => exact False.elim h
  | some x =>
    cases r' with
    | none => exact False.elim h
    | some v => exact h
theorem get_ok (G : Gd L T n cf E X) : MtR X "dict.get" (mD L E .get) := by
  intro pins s σ H x xs v us Q I rx rs ⟨ρ, ah, x', xs', S, hx, hxs, P⟩
  cases hx with
  | @ref i0 a0 e =>
    cases hxs with
    | nil => exact False.elim P
    | cons k t =>
      cases t with
      | nil =>
        obtain ⟨o, _, b1, P⟩ := Post.rd S e P
        obtain ⟨r1, r2, g, h, P⟩ := dget_ok S b1 k (Post.bind P)
        obtain ⟨u, rfl, ru⟩ := vals1 rs
        cases (show v = Value.ref a0 from rx)
        exact d_get1 G.u1 I g ru fun w' s' I' r' => ⟨_, H, I', r', Post.oldT P S (h.getD .non)⟩
      | cons d t =>
        cases t with
        | cons _ _ => exact False.elim P
        | nil =>
          obtain ⟨o, _, b1, P⟩ := Post.rd S e P
          obtain ⟨r1, r2, g, h, P⟩ := dget_ok S b1 k (Post.bind P)
          cases (show v = Value.ref a0 from rx)
          cases rs with
          | cons ru rs =>
            cases rs with
            | cons rd rs =>
              cases rs
              exact d_get2 G.u1 I g ru rd fun w' s' I' r' => ⟨_, H, I', r', Post.oldT P S (h.getD d)⟩
  | _ =>
    cases hxs with
    | nil => exact False.elim P
    | cons _ t =>
      cases t with
      | nil => exact False.elim P
      | cons _ t => cases t <;> exact False.elim P
theorem dpop_ok (G : Gd L T n cf E X) : MtR X "dict.pop" (mD L E .dpop) := by
  intro pins s σ H x xs v us Q I rx rs ⟨ρ, ah, x', xs', S, hx, hxs, P⟩
  cases hx with
  | @ref i0 a0 e =>
    cases hxs with
    | nil => exact False.elim P
    | @cons k' kv _ _ k t =>
      cases t with
      | nil =>
        obtain ⟨o, _, b1, P⟩ := Post.rd S e P
        cases b1 with
        | @dK ks vs _ q r =>
          cases hk : keyOf k' with
          | none => simp only [hk] at P; exact False.elim P
          | some kk =>
            simp only [hk] at P
            cases hv : valA ks kk with
            | none => simp only [hv] at P; exact False.elim P
            | some y =>
              simp only [hv] at P
              obtain ⟨w, hw, rw'⟩ := (r.val kk).1 y hv
              obtain ⟨S2, st2, P2⟩ := P.wr (ho := .dK (dropK vs kk)) S e fun H' st e2 => .dK e2 ((r.step S st).drop kk)
              obtain ⟨u, rfl, ru⟩ := vals1 rs
              cases (show v = Value.ref a0 from rx)
              have ek := key_of_v k hk
              rw [ek] at ru
              exact d_pop (more := []) I q ru hw (.inl rfl) fun w' s' I' r' => ⟨_, _, I', r', P2.oldT S2 (rw'.step S st2)⟩
        | _ => exact False.elim P
      | cons _ _ => exact False.elim P
  | _ =>
    cases hxs with
    | nil => exact False.elim P
    | cons _ t => cases t <;> exact False.elim P
theorem setd_ok (G : Gd L T n cf E X) : MtR X "dict.setdefault" (mD L E .setd) := by
  intro pins s σ H x xs v us Q I rx rs ⟨ρ, ah, x', xs', S, hx, hxs, P⟩
  cases hx with
  | @ref i0 a0 e =>
    cases hxs with
    | nil => exact False.elim P
    | @cons k' kv _ _ k t =>
      cases t with
      | nil => exact False.elim P
      | cons d t =>
        cases t with
        | cons _ _ => exact False.elim P
        | nil =>
          obtain ⟨o, _, b1, P⟩ := Post.rd S e P
          cases b1 with
          | @dK ks vs _ q r =>
            obtain ⟨hl, P⟩ := Post.guard P
            have hl : vs.length < sizeLine := by rw [← r.length, ← line_eq]; exact Nat.le_of_ble_eq_true hl
            cases hk : keyOf k' with
            | none => simp only [hk] at P; exact False.elim P
            | some kk =>
              simp only [hk] at P
              cases rs with
              | cons ru rs =>
                cases rs with
                | cons rd rs =>
                  cases rs
                  cases (show v = Value.ref a0 from rx)
                  have ek := key_of_v k hk
                  rw [ek] at ru
                  refine d_setd I q ru rd hl (fun z hz w' s' I' r' => ?_) fun hn w' s' I' r' => ?_
                  · cases hv : valA ks kk with
                    | none => rw [(r.val kk).2 hv] at hz; cases hz
                    | some y =>
                      simp only [hv] at P
                      obtain ⟨w, hw, rw'⟩ := (r.val kk).1 y hv
                      rw [hw] at hz; cases hz
                      exact ⟨_, _, I', r', P.oldT S rw'⟩
                  · cases hv : valA ks kk with
                    | some y =>
                      obtain ⟨w, hw, rw'⟩ := (r.val kk).1 y hv
                      rw [hw] at hn; cases hn
                    | none =>
                      simp only [hv] at P
                      obtain ⟨S2, st2, P2⟩ := P.wr (ho := .dK (putK vs kk _)) S e fun H' st e2 => .dK e2 (KR.put kk (d.step S st) (r.step S st))
                      exact ⟨_, _, I', r', P2.oldT S2 (d.step S st2)⟩
          | _ => exact False.elim P
  | _ =>
    cases hxs with
    | nil => exact False.elim P
    | cons _ t =>
      cases t with
      | nil => exact False.elim P
      | cons _ t => cases t <;> exact False.elim P
end
end Ip

set_option Elab.async false
set_option linter.all false
set_option maxRecDepth 100000
set_option maxHeartbeats 4000000
namespace Ip
open PySem PySem.Spec PyProof.Rows L2

/-! ### readings -/
section
variable (L : Lw) (E : XK)
def dE (f : Sg → M Vl) : TE := fun σ H Q => ∃ ρ ah σ', Sim L ρ H ah ∧ EnvR L ρ H σ' σ ∧ Post L E ρ H (f σ' ah) (VQ L Q)
def dA (f : Sg → M (List Vl)) : TA := fun σ H Q => ∃ ρ ah σ', Sim L ρ H ah ∧ EnvR L ρ H σ' σ ∧ Post L E ρ H (f σ' ah) (fun xs _ ρ' H' => ∀ vs, Reps L ρ' H' xs vs → Q vs H')
def dB (f : Sg → M Bool) : TT := fun σ H Q => ∃ ρ ah σ', Sim L ρ H ah ∧ EnvR L ρ H σ' σ ∧ Post L E ρ H (f σ' ah) (fun k _ _ H' => Q k H')
def dO (f : Sg → M (Option Int)) : TO := fun σ H Q => ∃ ρ ah σ', Sim L ρ H ah ∧ EnvR L ρ H σ' σ ∧ Post L E ρ H (f σ' ah) (fun k _ _ H' => Q k H')
/-- what an iterator yields -/
def Src (J : It) (g : Gu) (xs : List Vl) (ρ0 : List Addr) (H0 : Hp) : Prop := ∀ (i : Nat) (ρ : List Addr) (H : Hp) (ah : AH), Step ρ0 H0 ρ H → Sim L ρ H ah → chk g ah = .ok () ah →
  (∀ x, xs[i]? = some x → J.go i H ∧ ∀ v H', J.yld i H v H' → Step ρ H ρ H' ∧ Sim L ρ H' ah ∧ Rep L ρ H' x v) ∧ (xs.length ≤ i → J.stop i H)
def dI (f : Sg → M (List Vl × Gu)) : TI := fun σ H R => ∃ ρ ah σ', Sim L ρ H ah ∧ EnvR L ρ H σ' σ ∧ Post L E ρ H (f σ' ah) (fun p _ ρ1 H1 => ∀ J, Src L J p.2 p.1 ρ1 H1 → R J H1)
def dG (vs : List Nat) (f : Vl → Sg → M Sg) : TG := fun v σ H Q => ∃ ρ ah σ' v', Sim L ρ H ah ∧ EnvR L ρ H σ' σ ∧ Rep L ρ H v' v ∧ Post L E ρ H (f v' σ' ah) (fun σ1' _ ρ1 H1 => ∀ σ1, EnvR L ρ1 H1 σ1' σ1 → wipe σ1 vs = wipe σ vs → Q σ1 H1)
def dGs (vs : List Nat) (f : List Vl → Sg → M Sg) : TGs := fun v σ H Q => ∃ ρ ah σ' v', Sim L ρ H ah ∧ EnvR L ρ H σ' σ ∧ Reps L ρ H v' v ∧ Post L E ρ H (f v' σ' ah) (fun σ1' _ ρ1 H1 => ∀ σ1, EnvR L ρ1 H1 σ1' σ1 → wipe σ1 vs = wipe σ vs → Q σ1 H1)
end
section
variable {X : Cx} {e : Expr} {es : List Expr}
theorem PEimp {t u : TE} (h : PE X e t) (k : ∀ σ H Q, u σ H Q → t σ H Q) : PE X e u := ⟨fun pins s σ H Q I q => h.run pins s σ H Q I (k σ H Q q)⟩
theorem PAimp {t u : TA} (h : PA X es t) (k : ∀ σ H Q, u σ H Q → t σ H Q) : PA X es u := ⟨fun pos pins s σ H Q I q => h.run pos pins s σ H Q I (k σ H Q q)⟩
theorem PTimp {t u : TT} (h : PT X e t) (k : ∀ σ H Q, u σ H Q → t σ H Q) : PT X e u := ⟨fun pins s σ H Q I q => h.run pins s σ H Q I (k σ H Q q)⟩
theorem PWimp {t u : TT} (h : PW X e t) (k : ∀ σ H Q, u σ H Q → t σ H Q) : PW X e u := ⟨fun wh pins s σ H Q I q => h.run wh pins s σ H Q I (k σ H Q q)⟩
theorem PTsimp {t u : TT} (h : PTs X es t) (k : ∀ σ H Q, u σ H Q → t σ H Q) : PTs X es u := ⟨fun pins s σ H Q I q => h.run pins s σ H Q I (k σ H Q q)⟩
theorem POimp {o : Option Expr} {t u : TO} (h : PO X o t) (k : ∀ σ H Q, u σ H Q → t σ H Q) : PO X o u := ⟨fun pins s σ H Q I q => h.run pins s σ H Q I (k σ H Q q)⟩
theorem PIimp {tg : Expr} {t u : TI} (h : PI X tg e t) (k : ∀ σ H Q, u σ H Q → t σ H Q) : PI X tg e u := ⟨fun pins s σ H Q I q => h.run pins s σ H Q I (k σ H Q q)⟩
theorem PGimp {t u : TG} (h : PG X e t) (k : ∀ v σ H Q, u v σ H Q → t v σ H Q) : PG X e u := ⟨fun pins s σ H v w Q I r q => h.run pins s σ H v w Q I r (k v σ H Q q)⟩
theorem PGsimp {t u : TGs} (h : PGs X es t) (k : ∀ v σ H Q, u v σ H Q → t v σ H Q) : PGs X es u := ⟨fun pins s σ H v w Q I r q => h.run pins s σ H v w Q I r (k v σ H Q q)⟩
end
section
variable {L : Lw} {T : List Fn} {n : Nat} {cf : Orc} {E : XK} {X : Cx} {ρ : List Addr} {H : Hp} {ah : AH} {α β : Type}
/-- an exceptionless place -/
abbrev E0 : XK := fun _ _ _ => False
theorem Post.noex {m : M α} {Φ : α → AH → List Addr → Hp → Prop} (h : Post L E ρ H (noex m ah) Φ) : Post L E0 ρ H (m ah) Φ := by
  unfold Ip.noex at h
  cases q : m ah with
  | ok a h' => rw [q] at h; exact h
  | ex c p h' => rw [q] at h; exact False.elim h
  | no => rw [q] at h; exact False.elim h
theorem Gd.blk (G : Gd L T n cf E X) (s : Shared) (H : Hp) (scope : Scope) (cenv : Env) (fp : List Addr) : Gd L T n cf E0 (X.blk s H scope cenv fp) :=
  ⟨G.P, G.w, G.K, G.mg, G.base, G.nd, G.calm, G.room, G.fns, G.ok, G.okG, fun pins σ H s e s' I ⟨_, _, _, _, _, _, _, _, _, _, _, _, f⟩ => f.elim⟩
/-! the sources -/
theorem chk_none {g : Gu} {h : AH} (h1 : chk g h ≠ .no) : chk g h = .ok () h := by
  cases g with
  | none => rfl
  | some p =>
    obtain ⟨i, xs⟩ := p
    unfold chk at h1 ⊢
    dsimp only at h1 ⊢
    unfold M.bind rd at h1 ⊢
    cases q : h[i]? with
    | none => simp only [q] at h1; exact absurd trivial (by simpa using h1)
    | some o =>
      simp only [q] at h1 ⊢
      cases o with
      | lst ys =>
        dsimp only at h1 ⊢
        unfold guardB at h1 ⊢
        cases z : eqbs ys xs with
        | true => rfl
        | false => simp only [z] at h1; exact absurd rfl h1
      | ro ys =>
        dsimp only at h1 ⊢
        unfold guardB at h1 ⊢
        cases z : eqbs ys xs with
        | true => rfl
        | false => simp only [z] at h1; exact absurd rfl h1
      | _ => exact absurd rfl h1
theorem chk_list {i : Nat} {xs : List Vl} {h : AH} (q : chk (some (i, xs)) h = .ok () h) : h[i]? = some (.lst xs) ∨ h[i]? = some (.ro xs) := by
  unfold chk at q
  dsimp only at q
  unfold M.bind rd at q
  cases z : h[i]? with
  | none => simp only [z] at q; cases q
  | some o =>
    simp only [z] at q
    cases o with
    | lst ys =>
      dsimp only at q
      unfold guardB at q
      cases w : eqbs ys xs with
      | true => rw [eqbs_ok _ _ w]; exact .inl rfl
      | false => simp only [w] at q; cases q
    | ro ys =>
      dsimp only at q
      unfold guardB at q
      cases w : eqbs ys xs with
      | true => rw [eqbs_ok _ _ w]; exact .inr rfl
      | false => simp only [w] at q; cases q
    | _ => cases q
theorem sq_of_chk {K : PySem.W.Frag} {i : Nat} {xs : List Vl} {a : Addr} (S : Sim L ρ H ah) (e : ρ[i]? = some a) (q : chk (some (i, xs)) ah = .ok () ah) : ∃ vs, SqL K H a vs ∧ Reps L ρ H xs vs := by
  rcases chk_list q with z | z
  · have b := S.ob _ _ _ e z
    cases b with
    | lst q r => exact ⟨_, SqL.of q, r⟩
  · have b := S.ob _ _ _ e z
    cases b with
    | ro q r => exact ⟨_, .inl (.inr ⟨_, q⟩), r⟩
theorem src_tup {a : Addr} {xs : List Vl} {vs : List V} (hq : ∀ ρ' H', Step ρ H ρ' H' → SqT X.K H' a vs) (S : Sim L ρ H ah) (r : Reps L ρ H xs vs) : Src L (Itt X.K a) none xs ρ H := by
  intro i ρ' H' ah' st S' _
  refine ⟨fun x hx => ?_, fun hl => ⟨vs, hq _ _ st, by rw [← r.length]; exact hl⟩⟩
  obtain ⟨v, hv, rv⟩ := r.get hx
  refine ⟨⟨vs, v, hq _ _ st, hv⟩, fun w H2 ⟨e1, e2⟩ => ?_⟩
  subst e1
  have := e2 vs (hq _ _ st)
  rw [hv] at this; cases this
  exact ⟨Step.refl, S', rv.step S st⟩
theorem src_list {a : Addr} {i0 : Nat} {xs : List Vl} (e : ρ[i0]? = some a) : Src L (Itl X.K a) (some (i0, xs)) xs ρ H := by
  intro i ρ' H' ah' st S' hc
  obtain ⟨vs, hq, r⟩ := sq_of_chk (K := X.K) S' (st.get e) hc
  refine ⟨fun x hx => ?_, fun hl => ⟨vs, hq, by rw [← r.length]; exact hl⟩⟩
  obtain ⟨v, hv, rv⟩ := r.get hx
  refine ⟨⟨vs, v, hq, hv⟩, fun w H2 ⟨e1, e2⟩ => ?_⟩
  subst e1
  have := e2 vs hq
  rw [hv] at this; cases this
  exact ⟨Step.refl, S', rv⟩
theorem numb_get : ∀ (xs : List Vl) (k i : Nat) (z : Vl), (numb k xs)[i]? = some z → ∃ x, xs[i]? = some x ∧ z = .tup [.int ((k + i : Nat) : Int), x]
  | [], _, _, _, h => by simp [numb] at h
  | x :: xs, k, 0, z, h => by simp [numb] at h; exact ⟨x, rfl, h.symm⟩
  | x :: xs, k, i + 1, z, h => by
    obtain ⟨y, h1, h2⟩ := numb_get xs (k + 1) i z (by simpa [numb] using h)
    exact ⟨y, by simpa using h1, by rw [h2]; congr 3; omega⟩
theorem numb_len : ∀ (xs : List Vl) (k : Nat), (numb k xs).length = xs.length
  | [], _ => rfl
  | x :: xs, k => by simp [numb, numb_len xs]
theorem src_enumT {a : Addr} {xs : List Vl} {vs : List V} (hq : ∀ ρ' H', Step ρ H ρ' H' → SqT X.K H' a vs) (S : Sim L ρ H ah) (r : Reps L ρ H xs vs) : Src L (IteT X.K a) none (numb 0 xs) ρ H := by
  intro i ρ' H' ah' st S' _
  refine ⟨fun x hx => ?_, fun hl => ⟨vs, hq _ _ st, by rw [← r.length, ← numb_len xs 0]; exact hl⟩⟩
  obtain ⟨y, hy, ex⟩ := numb_get _ _ _ _ hx
  obtain ⟨v, hv, rv⟩ := r.get hy
  refine ⟨⟨vs, v, hq _ _ st, hv⟩, fun w H2 ⟨t, u, e0, hn, e1, e2⟩ => ?_⟩
  subst e0 e1 ex
  have := e2 vs (hq _ _ st)
  rw [hv] at this; cases this
  refine ⟨step_new hn, S'.new hn, .tup upd_same (.cons ?_ (.cons ((rv.step S st).step S' (step_new hn)) .nil))⟩
  rw [Nat.zero_add]
  exact .int _
theorem src_enumL {a : Addr} {i0 : Nat} {xs : List Vl} (e : ρ[i0]? = some a) : Src L (Ite X.K a) (some (i0, xs)) (numb 0 xs) ρ H := by
  intro i ρ' H' ah' st S' hc
  obtain ⟨vs, hq, r⟩ := sq_of_chk (K := X.K) S' (st.get e) hc
  refine ⟨fun x hx => ?_, fun hl => ⟨vs, hq, by rw [← r.length, ← numb_len xs 0]; exact hl⟩⟩
  obtain ⟨y, hy, ex⟩ := numb_get _ _ _ _ hx
  obtain ⟨v, hv, rv⟩ := r.get hy
  refine ⟨⟨vs, v, hq, hv⟩, fun w H2 ⟨t, u, e0, hn, e1, e2⟩ => ?_⟩
  subst e0 e1 ex
  have := e2 vs hq
  rw [hv] at this; cases this
  refine ⟨step_new hn, S'.new hn, .tup upd_same (.cons ?_ (.cons (rv.step S' (step_new hn)) .nil))⟩
  rw [Nat.zero_add]
  exact .int _
theorem zipA_get : ∀ (xs ys : List Vl) (i : Nat) (z : Vl), (zipA xs ys)[i]? = some z → ∃ x y, xs[i]? = some x ∧ ys[i]? = some y ∧ z = .tup [x, y]
  | [], _, _, _, h => by simp [zipA] at h
  | _ :: _, [], _, _, h => by simp [zipA] at h
  | x :: xs, y :: ys, 0, z, h => by simp [zipA] at h; exact ⟨x, y, rfl, rfl, h.symm⟩
  | x :: xs, y :: ys, i + 1, z, h => by
    obtain ⟨a, b, h1, h2, h3⟩ := zipA_get xs ys i z (by simpa [zipA] using h)
    exact ⟨a, b, by simpa using h1, by simpa using h2, h3⟩
theorem zipA_len : ∀ (xs ys : List Vl) (i : Nat), (zipA xs ys).length ≤ i → xs.length ≤ i ∨ ys.length ≤ i
  | [], _, _, _ => .inl (Nat.zero_le _)
  | _ :: _, [], _, _ => .inr (Nat.zero_le _)
  | x :: xs, y :: ys, i, h => by
    rw [zipA, List.length_cons] at h
    cases i with
    | zero => omega
    | succ i =>
      rcases zipA_len xs ys i (by omega) with z | z
      · exact .inl (by rw [List.length_cons]; omega)
      · exact .inr (by rw [List.length_cons]; omega)
theorem src_zip {a b : Addr} {xs ys : List Vl} {vs ws : List V} (hq : ∀ ρ' H', Step ρ H ρ' H' → SqT X.K H' a vs) (hq2 : ∀ ρ' H', Step ρ H ρ' H' → SqT X.K H' b ws) (S : Sim L ρ H ah) (r : Reps L ρ H xs vs) (r2 : Reps L ρ H ys ws) : Src L (RZ.ItzT X.K a b) none (zipA xs ys) ρ H := by
  intro i ρ' H' ah' st S' _
  refine ⟨fun x hx => ?_, fun hl => ⟨vs, ws, hq _ _ st, hq2 _ _ st, by rw [← r.length, ← r2.length]; exact zipA_len _ _ _ hl⟩⟩
  obtain ⟨x1, y1, h1, h2, ex⟩ := zipA_get _ _ _ _ hx
  obtain ⟨v, hv, rv⟩ := r.get h1
  obtain ⟨w, hw, rw'⟩ := r2.get h2
  refine ⟨⟨vs, ws, v, w, hq _ _ st, hq2 _ _ st, hv, hw⟩, fun z H2 ⟨t, u, u2, e0, hn, e1, e2, e3⟩ => ?_⟩
  subst e0 e1 ex
  have := e2 vs (hq _ _ st)
  rw [hv] at this; cases this
  have := e3 ws (hq2 _ _ st)
  rw [hw] at this; cases this
  exact ⟨step_new hn, S'.new hn, .tup upd_same (.cons ((rv.step S st).step S' (step_new hn)) (.cons ((rw'.step S st).step S' (step_new hn)) .nil))⟩
theorem rangeA_get : ∀ (m : Nat) (lo : Int) (i : Nat) (z : Vl), (rangeA lo m)[i]? = some z → i < m ∧ z = .int (lo + (i : Nat))
  | 0, _, _, _, h => by simp [rangeA] at h
  | m + 1, lo, 0, z, h => by simp [rangeA] at h; exact ⟨Nat.succ_pos _, by rw [← h]; simp⟩
  | m + 1, lo, i + 1, z, h => by
    obtain ⟨h1, h2⟩ := rangeA_get m (lo + 1) i z (by simpa [rangeA] using h)
    exact ⟨Nat.succ_lt_succ h1, by rw [h2]; congr 1; omega⟩
theorem rangeA_len : ∀ (m : Nat) (lo : Int), (rangeA lo m).length = m
  | 0, _ => rfl
  | m + 1, lo => by simp [rangeA, rangeA_len m]
theorem src_range {lo : Int} {m : Nat} : Src L (L2.Itr lo m) none (rangeA lo m) ρ H := by
  intro i ρ' H' ah' st S' _
  refine ⟨fun x hx => ?_, fun hl => by rw [rangeA_len] at hl; exact hl⟩
  obtain ⟨h1, ex⟩ := rangeA_get _ _ _ _ hx
  refine ⟨h1, fun v H2 ⟨e1, e2⟩ => ?_⟩
  subst e1 e2 ex
  exact ⟨Step.refl, S', .int _⟩
/-! ### list comprehensions -/
def accB (ft : Vl → Sg → M Sg) (ff : Sg → M Bool) (fe : Sg → M Vl) (σ : Sg) (v : Vl) : M (Option Vl) :=
  (ft v σ).bind fun σ1 => (ff σ1).bind fun k => if k = true then (fe σ1).bind fun y => ret (some y) else ret none
theorem clp_cons {g : Gu} {body : Vl → M (Option Vl)} {x : Vl} {rest acc : List Vl} {f : List Vl → M β} {Θ : β → AH → List Addr → Hp → Prop} (P : Post L E ρ H (((clp g body (x :: rest) acc).bind f) ah) Θ) :
    chk g ah = .ok () ah ∧ ∃ o ah', body x ah = .ok o ah' ∧ Post L E ρ H (((clp g body rest (snocO acc o)).bind f) ah') Θ := by
  have hc : chk g ah = .ok () ah := chk_none fun z => by
    unfold clp M.bind at P
    simp only [z] at P
    exact P
  refine ⟨hc, ?_⟩
  unfold clp at P
  have e : ∀ (m : M (List Vl)), ((M.bind (chk g) fun _ => m) ah) = m ah := fun m => by
    unfold M.bind; simp only [hc]
  unfold M.bind at P
  simp only [hc] at P
  cases q : body x ah with
  | ok o ah' =>
    refine ⟨o, ah', rfl, ?_⟩
    unfold Ip.noex at P
    simp only [q] at P
    exact P
  | ex c p h' =>
    unfold Ip.noex at P
    simp only [q] at P
    exact False.elim P
  | no =>
    unfold Ip.noex at P
    simp only [q] at P
    exact False.elim P
theorem clp_nil {g : Gu} {body : Vl → M (Option Vl)} {acc : List Vl} {f : List Vl → M β} {Θ : β → AH → List Addr → Hp → Prop} (P : Post L E ρ H (((clp g body [] acc).bind f) ah) Θ) :
    chk g ah = .ok () ah ∧ Post L E ρ H (f acc ah) Θ := by
  have hc : chk g ah = .ok () ah := chk_none fun z => by
    unfold clp M.bind at P
    simp only [z] at P
    exact P
  refine ⟨hc, ?_⟩
  unfold clp M.bind at P
  simp only [hc] at P
  exact P
theorem wipeA_set (σ : L2.St) (x : Option V) (i : Nat) : ∀ vs : List Nat, wipe (σ.set i x) vs = if i ∈ vs then wipe σ vs else (wipe σ vs).set i x
  | [] => by simp [wipe]
  | v :: vs => by
    rw [wipe, wipe, wipeA_set σ x i vs]
    by_cases h1 : i = v
    · subst h1
      simp only [List.mem_cons, true_or, if_true]
      split
      · rfl
      · rw [List.set_set]
    · by_cases h2 : i ∈ vs
      · simp [h2]
      · simp only [h2, List.mem_cons, h1, or_self, if_false]
        rw [List.set_comm _ _ h1]
theorem wipe_own {σ : L2.St} {x : Option V} {i : Nat} {vs : List Nat} (h : i ∈ vs) : wipe (σ.set i x) vs = wipe σ vs := by rw [wipeA_set, if_pos h]
theorem wipe_idem (σ : L2.St) : ∀ (us vs : List Nat), (∀ u ∈ us, u ∈ vs) → wipe (wipe σ us) vs = wipe σ vs
  | [], _, _ => rfl
  | u :: us, vs, h => by rw [wipe, wipe_own (h u List.mem_cons_self), wipe_idem σ us vs fun x hx => h x (List.mem_cons_of_mem _ hx)]
/-- a result that is known -/
theorem Post.of_eq {R : Rs α} {a : α} {ah' : AH} (e : R = .ok a ah') : Post L E ρ H R (fun b ah2 ρ2 H2 => b = a ∧ ah2 = ah' ∧ Step ρ H ρ2 H2) := by
  subst e
  exact fun ρ2 H2 st S => ⟨rfl, rfl, st⟩
theorem lc_den {fi : Sg → M (List Vl × Gu)} {ft : Vl → Sg → M Sg} {ff : Sg → M Bool} {fe : Sg → M Vl} {vs : List Nat} {σ : L2.St} {H : Hp} {Q : VK}
    (h : dE L E (fun σ => (fi σ).bind fun p => guardB (Nat.ble p.1.length line) ((clp p.2 (accB ft ff fe (wipeA σ vs)) p.1 []).bind fun acc => alloc (.lst acc))) σ H Q) :
    tLc (dI L E fi) (dG L E0 vs ft) (dB L E0 ff) (dE L E0 fe) vs σ H Q := by
  obtain ⟨ρ, ah, σ', S, R, P⟩ := h
  refine ⟨ρ, ah, σ', S, R, P.bind.imp fun p ah1 ρ1 H1 st1 S1 P1 J hJ D hD => ?_⟩
  obtain ⟨hlen, P1⟩ := P1.guard
  have hlen := ble_line hlen
  have R1 := SR.step S st1 R
  refine ⟨fun i m H => m = p.1.length - i ∧ i ≤ p.1.length ∧ ∃ ρi ahi acc va, Step ρ1 H1 ρi H ∧ Sim L ρi H ahi ∧ D ∉ ρi ∧ H D = some (.lst va) ∧ Reps L ρi H acc va ∧ acc.length ≤ i ∧ EnvR L ρi H σ' σ ∧
    Post L E ρ1 H1 (((clp p.2 (accB ft ff fe (wipeA σ' vs)) (p.1.drop i) acc).bind fun acc => alloc (.lst acc)) ahi) (VQ L Q), ⟨p.1.length, by simp, Nat.zero_le _, ρ1, ah1, [], [], step_new hD, S1.new hD, S1.fresh hD, upd_same, .nil, Nat.zero_le _, SR.step S1 (step_new hD) R1, P1⟩, ?_⟩
  rintro i m Hi ⟨rfl, hi, ρi, ahi, acc, va, sti, Si, nD, eD, ra, hl, Ri, Pi⟩
  by_cases hlt : i < p.1.length
  · right
    rw [List.drop_eq_getElem_cons hlt] at Pi
    obtain ⟨hc, o, ah', hb, Pn⟩ := clp_cons Pi
    have hx : p.1[i]? = some p.1[i] := List.getElem?_eq_getElem hlt
    obtain ⟨hgo, hy⟩ := (hJ i ρi Hi ahi sti Si hc).1 _ hx
    refine ⟨hgo, fun H' => i + 1 ≤ p.1.length ∧ ∃ ρi ahi acc va, Step ρ1 H1 ρi H' ∧ Sim L ρi H' ahi ∧ D ∉ ρi ∧ H' D = some (.lst va) ∧ Reps L ρi H' acc va ∧ acc.length ≤ i + 1 ∧ EnvR L ρi H' σ' σ ∧
      Post L E ρ1 H1 (((clp p.2 (accB ft ff fe (wipeA σ' vs)) (p.1.drop (i + 1)) acc).bind fun acc => alloc (.lst acc)) ahi) (VQ L Q), fun H' h' => ⟨p.1.length - (i + 1), by omega, rfl, h'⟩, fun v H2 hv => ?_⟩
    obtain ⟨st2, S2, rv⟩ := hy v H2 hv
    have B := Post.of_eq (L := L) (E := E0) (ρ := ρi) (H := H2) hb
    refine ⟨ρi, ahi, wipeA σ' vs, p.1[i], S2, EnvR.wipe (SR.step Si st2 Ri) vs, rv, B.bind.imp fun σ1 ah3 ρ3 H3 st3 S3 P3 σ3 R3 hw => ?_⟩
    refine ⟨by rw [hw, wipe_idem σ vs vs fun _ h => h], ρ3, ah3, σ1, S3, R3, P3.bind.imp fun k ah4 ρ4 H4 st4 S4 P4 => ?_⟩
    have stA := (st2.trans S2 (st3.trans S3 st4))
    have keyD : H4 D = some (.lst va) := stA.keep _ _ eD nD ⟨fun _ z => (nomatch z), fun _ z => (nomatch z)⟩
    have nD4 : D ∉ ρ4 := stA.out nD eD (fun _ z => nomatch z)
    have stB := sti.trans Si stA
    cases k with
    | false =>
      simp only [Bool.false_eq_true, if_false] at P4 ⊢
      obtain ⟨eo, ea, _⟩ := P4.ret S4
      subst eo ea
      exact ⟨hlt, ρ4, ah4, acc, va, stB, S4, nD4, keyD, ra.step Si stA, by omega, SR.step Si stA Ri, Pn⟩
    | true =>
      simp only [if_true] at P4 ⊢
      refine ⟨ρ4, ah4, σ1, S4, SR.step S3 st4 R3, P4.bind.imp fun y ah5 ρ5 H5 st5 S5 P5 yv ry => ?_⟩
      obtain ⟨eo, ea, _⟩ := P5.ret S5
      subst eo ea
      have keyD5 : H5 D = some (.lst va) := st5.keep _ _ keyD nD4 ⟨fun _ z => (nomatch z), fun _ z => (nomatch z)⟩
      have nD5 : D ∉ ρ5 := st5.out nD4 keyD (fun _ z => nomatch z)
      have stC := stA.trans S4 st5
      have tt := side_tup (w := .lst (va ++ [yv])) keyD5 trivial
      refine ⟨va, keyD5, ?_, hlt, ρ5, ah5, acc ++ [y], va ++ [yv], (sti.trans Si stC).side hD, S5.side keyD5 trivial nD5, nD5, upd_same, ((ra.step Si stC).snoc ry).side tt, by rw [List.length_append, List.length_singleton]; omega, ?_, Pn⟩
      · rw [← ra.length]
        omega
      · exact Paired.mapP (SR.step Si stC Ri) fun _ _ q => OR.side tt q
  · left
    have ei : i = p.1.length := by omega
    subst ei
    rw [List.drop_length] at Pi
    obtain ⟨hc, Pn⟩ := clp_nil Pi
    refine ⟨(hJ _ ρi Hi ahi sti Si hc).2 (Nat.le_refl _), ?_⟩
    refine Pn (ρi ++ [D]) Hi ⟨?_, ?_, fun a y e h lv => ?_, sti.owd⟩ (Si.num nD (.lst eD ra)) _ (Rep.last Si.len.symm)
    · obtain ⟨δ, e, nn⟩ := sti.pre
      refine ⟨δ ++ [D], by rw [e, List.append_assoc], fun a ha o eo z => ?_⟩
      rcases List.mem_append.mp ha with ha | ha
      · exact nn a ha o eo z
      · rw [List.mem_singleton.mp ha, hD] at eo; cases eo
    · exact fun a o e h z => sti.keep a o e h z
    · rcases sti.own a y e h lv with q | ⟨q1, q2⟩
      · exact .inl q
      · exact .inr ⟨List.mem_append_left _ q1, q2⟩
end
end Ip

set_option Elab.async false
set_option linter.all false
set_option maxRecDepth 100000
set_option maxHeartbeats 8000000
namespace Ip
open PySem PySem.Spec PyProof.Rows L2

/-! ### dict comprehensions, keys of any kind, one clause or two -/
theorem dset_any {X : Cx} {pins : List (Addr × Obj)} {σ : L2.St} {H H' : Hp} {s : Shared} {E : Value → Shared → Prop} {D : Addr} {y v : V} {u r : Value} {Q : Unit → Shared → Prop} (hu : X.A.units + 1 < cLine) (I : L2.Inv X pins σ H s) (g : DPut H D y v H')
    (ry : L2.RelV y u) (rv : L2.RelV v r) (h : ∀ s', L2.Inv X pins σ H' s' → Q () s') : wpAny (model X.prog X.w) X.A (dictSet D u r) Q E s := by
  rcases g with ⟨kvs, k, e, ey, l, eH⟩ | ⟨kvs, k, b, e, ey, eb, l, eH⟩
  · subst ey eH
    exact d_dictSet I e l ry rv h
  · subst ey eH
    cases (show u = Value.ref b from ry)
    obtain ⟨z, hd, xs, rel, dd⟩ := dt_of I.hok e
    have hz : xs.length ≤ sizeLine := by rw [← Paired.length rel]; exact z
    have hl : (putK kvs k v).length ≤ sizeLine := by have := length_putK kvs k v; omega
    refine wpAny_dictSet_heap (hsz := hz) (show X.A.units < cLine by omega) (key_of I.hok eb) dd fun h' dd' hs => h _ ?_
    obtain ⟨q, es, ep, hq, h2, h3, h4, _, h5⟩ := dd'
    refine d_write I (by rw [e]; exact True.intro) hs ⟨q, hq⟩ ⟨hl, hd, _, (rel.put k eb rv).keeps fun c ys ec => ?_, q, es, ep, hq, h2, h3, h4, h5⟩
    rw [upd_ne (ne_of ec e (fun z => nomatch z))]
    exact ec
def isD0 (o : HO) : Prop := o = .dK [] ∨ o = .dT []
theorem d0_ok {P : Program} {w : World} {H : Hp} {o : HO} (h0 : isD0 o) (h : Heap) (hb : sysModules < h.objs.size) : ObjOk P w H (h.push { cls := .type "dict", data := .dict #[] }) h.objs.size o := by
  rcases h0 with rfl | rfl
  · exact dk_empty h hb
  · exact dt_empty h hb
section
variable {X : Cx}
def tDcA (o0 : HO) (wi : TI) (g : TG) (tt : TT) (tk tv : TE) (vs : List Nat) : TE := fun σ H Q => wi σ H fun J H1 => ∀ D, H1 D = none → ∃ W : Nat → Nat → Hp → Prop, (∃ m, W 0 m (upd H1 D o0)) ∧ ∀ i m H, W i m H →
  (J.stop i H ∧ Q (.ref D) H) ∨ (J.go i H ∧ ∃ Nx : Hp → Prop, (∀ H', Nx H' → ∃ m', m' < m ∧ W (i + 1) m' H') ∧ ∀ x H', J.yld i H x H' → g x (wipe σ vs) H' fun σ2 H2 => wipe σ2 vs = wipe σ vs ∧ tt σ2 H2 fun b H3 =>
    if b = true then tk σ2 H3 fun y H4 => tv σ2 H4 fun z H5 => ∃ H6, DPut H5 D y z H6 ∧ Nx H6 else Nx H3)
theorem dcA_core {pins : List (Addr × Obj)} {s : Shared} {σ : L2.St} {H : Hp} {Q : VK} {o0 : HO} {kx vx tg iter : Expr} {ifs : List Expr} {scope : Scope} {own : List (Str × Nat)} {pos pos' : Pos} {wi : TI} {g : TG} {tt : TT} {tk tv : TE} {use : Option (Value → Sem Unit)} {Qf : Value → Shared → Prop}
    (h0 : isD0 o0) (hu : X.A.units + 1 < cLine) (hc : X.calm = true) (hN : X.N.Nodup) (I : L2.Inv X pins σ H s) (hi : PI X tg iter wi) (ok : BlkOk X.N X.env.scope scope own)
    (hg : ∀ (s : Shared) (H : Hp) (C : Addr) (cl : List (Str × Addr)) (fp : List Addr), PG (X.blk s H scope (compEnvC scope cl C X.env) fp) tg g) (ht : ∀ (s : Shared) (H : Hp) (C : Addr) (cl : List (Str × Addr)) (fp : List Addr), PTs (X.blk s H scope (compEnvC scope cl C X.env) fp) ifs tt)
    (hk : ∀ (s : Shared) (H : Hp) (C : Addr) (cl : List (Str × Addr)) (fp : List Addr), PE (X.blk s H scope (compEnvC scope cl C X.env) fp) kx tk)
    (he : ∀ (s : Shared) (H : Hp) (C : Addr) (cl : List (Str × Addr)) (fp : List Addr), PE (X.blk s H scope (compEnvC scope cl C X.env) fp) vx tv) (hs : ∀ x, foldedSetIterable iter X.env x = pure x)
    (h : tDcA o0 wi g tt tk tv (own.map (·.2)) σ H Q)
    (hRR : ∀ D C s' m H', L2.Inv X pins σ H' s' → Q (.ref D) H' → s'.heap.Ns C m → FpOk X pins H' C → compPost (model X.prog X.w) X.A X.xe use Qf (.ref D) C (.ok .next) s') :
    wpAny (model X.prog X.w) X.A (comprehension (.DictComp kx vx [⟨tg, iter, ifs, 0⟩] scope pos) scope X.env pos' newDict false (eval iter X.env) use) Qf X.xe s := by
  have hfree : ∀ y ∈ scope.names, y.2 = .free → ∃ c, X.env.cells.lookup y.1 = some c := fun y hy e => by
    rcases ok.free y hy e with k | k
    · exact I.ok.has _ (.inl k)
    · exact I.ok.has _ (.inr k)
  refine wpAny_comprehension_free (use := use) rfl hs (closure_ok hfree) ok.kind (fun y hy e => by rw [ok.uniq y hy, e])
    (thn (hi.run pins s σ H _ I h) fun xv s1 hx => thn hx fun itv s2 h2 => ?_)
  obtain ⟨it, fp, tn, J, H2, e, I2, T, st2, f2, q⟩ := h2
  subst e
  refine wpAny_newObj_type (newEnv_comp ?_)
  generalize hD : s2.heap.objs.size = D
  have hDn : H2 D = none := I2.hok.fresh (Nat.le_of_eq hD)
  obtain ⟨W, ⟨m0, w0⟩, turn⟩ := q D hDn
  generalize hs3 : ({ s2 with heap := s2.heap.push { cls := .type "dict", data := .dict #[] } } : Shared) = s3
  have I3 : L2.Inv X pins σ (upd H2 D o0) s3 := by
    rw [← hs3]
    refine I2.laid (t' := s2.toks) (fun b o e => Heap.get?_push_of_some _ e) (Nat.le_of_eq hD) ?_
    rw [← hD]
    exact d0_ok h0 s2.heap I2.big
  have h3 : s3.heap = s2.heap.push { cls := .type "dict", data := .dict #[] } := by rw [← hs3]
  have sz : ∀ b ∈ fp, b < s2.heap.objs.size := fun b hb => by
    obtain ⟨o, e, _⟩ := T.obj _ _ st2 b hb
    exact Heap.lt_size e
  have f3 : ∀ b ∈ fp, FpOk X pins (upd H2 D o0) b ∧ b < s3.heap.objs.size := fun b hb => by
    have hlt := sz b hb
    refine ⟨⟨?_, (f2 b hb).2⟩, by rw [h3, Heap.size_push]; exact Nat.lt_succ_of_lt hlt⟩
    rw [upd_ne (by rw [← hD]; exact Nat.ne_of_lt hlt)]
    exact (f2 b hb).1
  have st3 : tn 0 s3.heap := T.keep _ _ _ st2 fun b _ o e => by rw [h3]; exact Heap.get?_push_of_some _ e
  have I4 := block_start I3 ok hN f3
  have pg := hg s3 (upd H2 D o0) s3.heap.objs.size (cellsFrom (s3.heap.objs.size + 1) scope.names (cloFrom X.env.cells scope.names [])) fp
  have pt := ht s3 (upd H2 D o0) s3.heap.objs.size (cellsFrom (s3.heap.objs.size + 1) scope.names (cloFrom X.env.cells scope.names [])) fp
  have pk := hk s3 (upd H2 D o0) s3.heap.objs.size (cellsFrom (s3.heap.objs.size + 1) scope.names (cloFrom X.env.cells scope.names [])) fp
  have pe := he s3 (upd H2 D o0) s3.heap.objs.size (cellsFrom (s3.heap.objs.size + 1) scope.names (cloFrom X.env.cells scope.names [])) fp
  show codeAny _ _ (.compStart (.DictComp kx vx [⟨tg, iter, ifs, 0⟩] scope pos) 0 (.ref it) (.ref D) (compEnvC scope (cellsFrom (s3.heap.objs.size + 1) scope.names (cloFrom X.env.cells scope.names [])) s3.heap.objs.size X.env)) (compPost (model X.prog X.w) X.A X.xe use Qf (.ref D) s3.heap.objs.size) { s3 with heap := pushCells (s3.heap.push { cls := .type "dict", data := .dict #[] }) scope.names }
  have nfp : ∀ b ∈ fp, (upd H2 D o0) b = none := fun b hb => (f3 b hb).1.1
  generalize hce : compEnvC scope (cellsFrom (s3.heap.objs.size + 1) scope.names (cloFrom X.env.cells scope.names [])) s3.heap.objs.size X.env = ce at I4 pg pt pk pe ⊢
  have cL : ce.locals = s3.heap.objs.size := by subst hce; rfl
  generalize hH3 : upd H2 D o0 = H3 at I3 I4 pg pt pk pe w0 nfp f3
  generalize hs4 : ({ s3 with heap := pushCells (s3.heap.push { cls := .type "dict", data := .dict #[] }) scope.names } : Shared) = s4 at I4 ⊢
  have st4 : tn 0 s4.heap := T.keep _ _ _ st3 fun b _ o e => by rw [← hs4]; exact pushCells_keeps _ _ _ _ (Heap.get?_push_of_some _ e)
  have stat : ∀ {σ' : L2.St} {H' : Hp} {s' : Shared}, L2.Inv (X.blk s3 H3 scope ce fp) [] σ' H' s' → (∀ b ∈ fp, H' b = none) → ∀ b ∈ fp, FpOk (X.blk s3 H3 scope ce fp) [] H' b := fun {σ' H' s'} I' hn b hb =>
    ⟨hn b hb, (I'.ok.exf b hb).1, I'.ok.exfs b hb, .inl hb, fun x c e => (I'.ok.exf b hb).2 x c e, fun p hp => absurd (show p ∈ ([] : List (Addr × Obj)) ++ [] from hp) (by simp)⟩
  have loop : codeAny (model X.prog X.w) X.A (.compLoop (.DictComp kx vx [⟨tg, iter, ifs, 0⟩] scope pos) 0 (.ref it) (.ref D) ce) (compPost (model X.prog X.w) X.A X.xe use Qf (.ref D) s3.heap.objs.size) s4 := by
    refine compLoop_anyD (fun n s' => ∃ i H', L2.Inv (X.blk s3 H3 scope ce fp) [] (wipe σ (own.map (·.2))) H' s' ∧ tn i s'.heap ∧ (∀ b ∈ fp, H' b = none) ∧ W i n H') ?_ m0 ⟨0, H3, I4, st4, nfp, w0⟩
    rintro n s5 ⟨i, H5, I5, st5, n5, w5⟩
    rcases turn i n H5 w5 with ⟨stop, qq⟩ | ⟨go, Nx, hNx, step⟩
    · refine thnF (T.done (X.blk s3 H3 scope ce fp) rfl rfl rfl hc i [] s5 _ H5 (fun _ _ => False) I5 (stat I5 n5) st5 stop) fun r s6 ⟨hr, I6⟩ => ?_
      subst hr
      have I7 : L2.Inv X pins σ H5 s6 := I3.call' (ch := fp) I6.os I6.base I6.hok I6.bare fun b hb => ⟨(f3 b hb).1.2.2.2.1, (f3 b hb).1.2.1, (f3 b hb).1.2.2.2.2.1, (f3 b hb).1.2.2.2.2.2⟩
      have nC : H5 s3.heap.objs.size = none := by
        have z : H5 ce.locals = none := I6.free
        rw [cL] at z
        exact z
      obtain ⟨m, hn, _⟩ := I6.loc
      have hn : s6.heap.Ns ce.locals m := hn
      rw [cL] at hn
      exact hRR D s3.heap.objs.size s6 m H5 I7 qq hn (I3.fpOk (Nat.le_refl _) nC)
    · refine thnF (T.item (X.blk s3 H3 scope ce fp) rfl rfl rfl hc i [] s5 _ H5 (fun _ _ => False) I5 (stat I5 n5) st5 go) fun r s6 ⟨u, hr, h6⟩ => ?_
      subst hr
      refine thnF h6 fun _ s7 ⟨x, H7, I7, r7, y7, st7, n7⟩ => ?_
      have I7' := I7.pinned (stat I7 n7) (T.obj _ _ st7)
      refine thnF (pg.run _ s7 _ H7 x u _ I7' r7 (step x H7 y7)) fun _ s8 ⟨σ8, H8, I8, hw8, q8⟩ => ?_
      refine thnF (pt.run _ s8 σ8 H8 _ I8 q8) fun b s9 ⟨H9, I9, q9⟩ => ?_
      have fin : ∀ {s' : Shared} {H' : Hp}, L2.Inv (X.blk s3 H3 scope ce fp) ([] ++ pinsAt fp s7.heap) σ8 H' s' → Nx H' → ∃ m, m < n ∧ ∃ i H', L2.Inv (X.blk s3 H3 scope ce fp) [] (wipe σ (own.map (·.2))) H' s' ∧ tn i s'.heap ∧ (∀ b ∈ fp, H' b = none) ∧ W i m H' := fun {s' H'} I' nx => by
        obtain ⟨m', hm, w'⟩ := hNx H' nx
        have pin' : ∀ b ∈ fp, ∀ o, s7.heap.get? b = some o → s'.heap.get? b = some o ∧ H' b = none := fun b hb o e =>
          let z := I'.pin (b, o) (List.mem_append_right _ (List.mem_append_right _ (mem_pinsAt hb e)))
          ⟨z.1, z.2.1⟩
        have hl : (wipe σ (own.map (·.2))).length = σ8.length := by rw [← hw8, wipe_length]
        refine ⟨m', hm, i + 1, H', (I'.unpinned (pins := [])).weak hl (fun j v e => ?_), T.keep _ _ _ st7 fun b hb o e => (pin' b hb o e).1, fun b hb => ?_, w'⟩
        · rw [← hw8] at e
          exact (wipe_some e).1
        · obtain ⟨o, e, _⟩ := T.obj _ _ st7 b hb
          exact (pin' b hb o e).2
      cases b with
      | false =>
        simp only [Bool.false_eq_true, if_false] at q9 ⊢
        exact fin I9 q9
      | true =>
        simp only [if_true] at q9 ⊢
        refine thnF (pk.run _ s9 σ8 H9 _ I9 q9) fun z s10 ⟨yk, H10, I10, r10, q10⟩ => ?_
        refine thnF (pe.run _ s10 σ8 H10 _ I10 q10) fun z2 s11 ⟨yv, H11, I11, r11, H12, gp, nx⟩ => ?_
        exact dset_any (X := X.blk s3 H3 scope ce fp) hu I11 gp r10 r11 fun s12 I12 => fin I12 nx
  exact codeAny_compStart_dict loop (T.self X.A 0 _ _ _ st4 loop)
theorem pe_dcA {o0 : HO} {kx vx tg iter : Expr} {ifs : List Expr} {scope : Scope} {own : List (Str × Nat)} {pos : Pos} {wi : TI} {g : TG} {tt : TT} {tk tv : TE} (h0 : isD0 o0) (hu : X.A.units + 1 < cLine) (hc : X.calm = true) (hN : X.N.Nodup) (hi : PI X tg iter wi) (ok : BlkOk X.N X.env.scope scope own)
    (hg : ∀ (s : Shared) (H : Hp) (C : Addr) (cl : List (Str × Addr)) (fp : List Addr), PG (X.blk s H scope (compEnvC scope cl C X.env) fp) tg g) (ht : ∀ (s : Shared) (H : Hp) (C : Addr) (cl : List (Str × Addr)) (fp : List Addr), PTs (X.blk s H scope (compEnvC scope cl C X.env) fp) ifs tt)
    (hk : ∀ (s : Shared) (H : Hp) (C : Addr) (cl : List (Str × Addr)) (fp : List Addr), PE (X.blk s H scope (compEnvC scope cl C X.env) fp) kx tk)
    (he : ∀ (s : Shared) (H : Hp) (C : Addr) (cl : List (Str × Addr)) (fp : List Addr), PE (X.blk s H scope (compEnvC scope cl C X.env) fp) vx tv) (hs : ∀ x, foldedSetIterable iter X.env x = pure x) :
    PE X (.DictComp kx vx [⟨tg, iter, ifs, 0⟩] scope pos) (tDcA o0 wi g tt tk tv (own.map (·.2))) := by
  refine ⟨fun pins s σ H Q I h => ?_⟩
  rw [arm_eval_DictComp]
  refine dcA_core h0 hu hc hN I hi ok hg ht hk he hs h fun D C s' m H' I' q hn f => ⟨m, hn, fun h'' sb => ?_⟩
  obtain ⟨f0, f1, f2, f3, f4, f5⟩ := f
  exact ⟨.ref D, H', I'.turned (t' := s'.toks) (fun b o hb e => (sb.2 b hb).trans e) f0 f1 f3 f4 f5, rfl, q⟩
/-- name = {..} on one line -/
theorem ps_setDcA {i : Nat} {y : Str} {py : Pos} {o0 : HO} {kx vx tg iter : Expr} {ifs : List Expr} {scope : Scope} {own : List (Str × Nat)} {pos spos : Pos} {wi : TI} {g : TG} {tt : TT} {tk tv : TE} (h0 : isD0 o0) (hu : X.A.units + 1 < cLine) (hc : X.calm = true) (hN : X.N.Nodup) (hy : X.N[i]? = some y) (hyl : X.env.scope.names.lookup y = some .local)
    (hsw : swapsWith (.DictComp kx vx [⟨tg, iter, ifs, 0⟩] scope pos) (some (.Name y py)) spos.line X.env = pure true) (hi : PI X tg iter wi) (ok : BlkOk X.N X.env.scope scope own)
    (hg : ∀ (s : Shared) (H : Hp) (C : Addr) (cl : List (Str × Addr)) (fp : List Addr), PG (X.blk s H scope (compEnvC scope cl C X.env) fp) tg g) (ht : ∀ (s : Shared) (H : Hp) (C : Addr) (cl : List (Str × Addr)) (fp : List Addr), PTs (X.blk s H scope (compEnvC scope cl C X.env) fp) ifs tt)
    (hk : ∀ (s : Shared) (H : Hp) (C : Addr) (cl : List (Str × Addr)) (fp : List Addr), PE (X.blk s H scope (compEnvC scope cl C X.env) fp) kx tk)
    (he : ∀ (s : Shared) (H : Hp) (C : Addr) (cl : List (Str × Addr)) (fp : List Addr), PE (X.blk s H scope (compEnvC scope cl C X.env) fp) vx tv) (hs : ∀ x, foldedSetIterable iter X.env x = pure x) :
    PS X (.Assign [.Name y py] (.DictComp kx vx [⟨tg, iter, ifs, 0⟩] scope pos) spos) (tAsg (tDcA o0 wi g tt tk tv (own.map (·.2))) (gName i)) := by
  refine ⟨fun pins s σ H D I h => ?_⟩
  rw [exec_Assign_Name_used _ _ _ _ hsw]
  refine wpAny_bind (wpAny_standAt (wpAny_bind ?_))
  show wpAny _ X.A (do let _ ← comprehension (.DictComp kx vx [⟨tg, iter, ifs, 0⟩] scope pos) scope X.env (firstIterPos [⟨tg, iter, ifs, 0⟩] pos) newDict false (eval iter X.env) (some (assign (.Name y py) X.env))) _ _ s
  have h : tDcA o0 wi g tt tk tv (own.map (·.2)) σ H (fun x H1 => gName i x σ H1 D.nx) := h
  refine wpAny_bind (thn (dcA_core (Qf := fun _ s' => SP X pins D .next s') h0 hu hc hN I hi ok hg ht hk he hs h fun L C s' m H' I' q hn f => ?_) fun _ s' hq => wpAny_pure (wpAny_pure hq))
  show wpAny _ _ (assign (.Name y py) X.env (.ref L)) _ _ _
  refine wpAny_assign_Name (store_ok2 (v := V.ref L) I' hN hy (.inl hyl) rfl (fun s2 I2 ⟨a, sb, ha⟩ => ?_) (.inr hyl))
  obtain ⟨f0, f1, f2, f3, f4, f5⟩ := f
  have haC : C ≠ a := by
    rcases ha with z | z
    · rw [z]; exact f1
    · exact fun e => f4 y a z e.symm
  refine ⟨m, hn.sameBut sb haC, fun h3 sb3 => ?_⟩
  exact ⟨_, H', I2.turned (t' := s2.toks) (fun b o hb e => (sb3.2 b hb).trans e) f0 f1 f3 f4 f5, q⟩
theorem sw_trueD {kx vx : Expr} {gs : List Comprehension} {scope : Scope} {pos py : Pos} {y : Str} {l : Nat} {env : Env} (hk : env.scope.kind = .function) (hy : env.scope.names.lookup y = some .local) (hl : (py.line == pos.line) = true)
    (ha : (scope.names.any fun (n, k) => n == y && (k == .local || k == .cell)) = false) : swapsWith (.DictComp kx vx gs scope pos) (some (.Name y py)) l env = pure true := by
  have ky : env.kindOf y = some .local := hy
  have hb : env.blockKind = .function := by unfold Env.blockKind; rw [hk]; rfl
  unfold swapsWith
  simp only [hb, ky, ha, Expr.pos, hl]
  rfl
end
end Ip
namespace Ip
open PySem PySem.Spec PyProof.Rows L2
section
variable {L : Lw} {T : List Fn} {n : Nat} {cf : Orc} {E : XK} {X : Cx} {ρ : List Addr} {H : Hp} {ah : AH} {α β : Type}
theorem put_ok {d : Ob} {D : Addr} {k' x' : Vl} {y z : V} {Φ : Ob → AH → List Addr → Hp → Prop} (S : Sim L ρ H ah) (b : ObR L ρ H d D) (hk : Rep L ρ H k' y) (hx : Rep L ρ H x' z) (P : Post L E ρ H (dPut d k' x' ah) Φ) :
    ∃ d' u w, H D = some u ∧ lstLike u ∧ DPut H D y z (upd H D w) ∧ ObR L ρ (upd H D w) d' D ∧ dPut d k' x' ah = .ok d' ah := by
  cases b with
  | @dK ks vs _ q r =>
    unfold dPut at P
    cases hq : keyOf k' with
    | none => simp only [hq] at P; exact False.elim P
    | some k =>
      simp only [hq] at P
      obtain ⟨h1, P⟩ := Post.guard P
      have hl : vs.length < sizeLine := by rw [← r.length, ← line_eq]; exact Nat.le_of_ble_eq_true h1
      refine ⟨.dK (putA ks k x'), _, .dK (putK vs k z), q, trivial, .inl ⟨vs, k, q, key_of_v hk hq, hl, rfl⟩, .dK upd_same (KR.put k (hx.side (side_tup q trivial)) (Paired.mapP r fun _ _ q2 => ⟨q2.1, q2.2.side (side_tup q trivial)⟩)), ?_⟩
      unfold dPut guardB
      simp only [hq, h1]
      rfl
  | @dT ks vs _ q r =>
    cases hk with
    | @tup zs ws a e2 r2 =>
      unfold dPut at P
      cases hq : keysOf zs with
      | none => simp only [hq] at P; exact False.elim P
      | some k =>
        simp only [hq] at P
        obtain ⟨h1, P⟩ := Post.guard P
        have hl : vs.length < sizeLine := by rw [← r.length, ← line_eq]; exact Nat.le_of_ble_eq_true h1
        rw [keys_of_v r2 hq] at e2
        refine ⟨.dT (putA ks k x'), _, .dT (putK vs k z), q, trivial, .inr ⟨vs, k, a, q, rfl, e2, hl, rfl⟩, .dT upd_same (KR.put k (hx.side (side_tup q trivial)) (Paired.mapP r fun _ _ q2 => ⟨q2.1, q2.2.side (side_tup q trivial)⟩)), ?_⟩
        unfold dPut guardB
        simp only [hq, h1]
        rfl
    | _ => exact False.elim P
  | _ => exact False.elim P
theorem dcp_cons {g : Gu} {body : Vl → M (Option (Vl × Vl))} {x : Vl} {rest : List Vl} {d : Ob} {f : Ob → M β} {Θ : β → AH → List Addr → Hp → Prop} (P : Post L E ρ H (((dcp g body (x :: rest) d).bind f) ah) Θ) :
    chk g ah = .ok () ah ∧ ∃ o ah', body x ah = .ok o ah' ∧ Post L E ρ H (((match o with
      | none => dcp g body rest d
      | some p => (dPut d p.1 p.2).bind fun d' => dcp g body rest d').bind f) ah') Θ := by
  have hc : chk g ah = .ok () ah := chk_none fun z => by
    unfold dcp M.bind at P
    simp only [z] at P
    exact P
  refine ⟨hc, ?_⟩
  unfold dcp at P
  unfold M.bind at P
  simp only [hc] at P
  cases q : body x ah with
  | ok o ah' =>
    refine ⟨o, ah', rfl, ?_⟩
    unfold Ip.noex at P
    simp only [q] at P
    exact P
  | ex c p h' =>
    unfold Ip.noex at P
    simp only [q] at P
    exact False.elim P
  | no =>
    unfold Ip.noex at P
    simp only [q] at P
    exact False.elim P
theorem dcp_nil {g : Gu} {body : Vl → M (Option (Vl × Vl))} {d : Ob} {f : Ob → M β} {Θ : β → AH → List Addr → Hp → Prop} (P : Post L E ρ H (((dcp g body [] d).bind f) ah) Θ) :
    chk g ah = .ok () ah ∧ Post L E ρ H (f d ah) Θ := by
  have hc : chk g ah = .ok () ah := chk_none fun z => by
    unfold dcp M.bind at P
    simp only [z] at P
    exact P
  refine ⟨hc, ?_⟩
  unfold dcp M.bind at P
  simp only [hc] at P
  exact P
/-- a put that goes on -/
theorem put_next {d d' : Ob} {k x : Vl} {f : Ob → M α} {g : α → M β} {Θ : β → AH → List Addr → Hp → Prop} (h : dPut d k x ah = .ok d' ah) (P : Post L E ρ H ((((dPut d k x).bind f).bind g) ah) Θ) : Post L E ρ H (((f d').bind g) ah) Θ := by
  unfold M.bind at P ⊢
  simp only [h] at P
  exact P
theorem gret_cases {b : Bool} {a : α} {ah : AH} : (∃ d', guardB b (ret a) ah = .ok d' ah) ∨ guardB b (ret a) ah = .no := by
  cases b with
  | true => exact .inl ⟨_, rfl⟩
  | false => exact .inr rfl
theorem dput_cases (d : Ob) (k x : Vl) (ah : AH) : (∃ d', dPut d k x ah = .ok d' ah) ∨ dPut d k x ah = .no := by
  cases d with
  | dK ks =>
    unfold dPut
    cases q : keyOf k with
    | none => simp only [q]; exact .inr rfl
    | some k => simp only [q]; exact gret_cases
  | dT ks =>
    cases k with
    | tup vs =>
      unfold dPut
      cases q : keysOf vs with
      | none => simp only [q]; exact .inr rfl
      | some k => simp only [q]; exact gret_cases
    | _ => exact .inr rfl
  | _ => exact .inr rfl
theorem put_def {d : Ob} {k x : Vl} {f : Ob → M α} {g : α → M β} {Θ : β → AH → List Addr → Hp → Prop} (P : Post L E ρ H ((((dPut d k x).bind f).bind g) ah) Θ) : ∃ d', dPut d k x ah = .ok d' ah := by
  rcases dput_cases d k x ah with h | h
  · exact h
  · unfold M.bind at P
    simp only [h] at P
    exact False.elim P
def dict0H : Bool → HO
  | true => .dT []
  | false => .dK []
theorem dict0_is (b : Bool) : isD0 (dict0H b) := by cases b <;> first | exact .inl rfl | exact .inr rfl
theorem dc_den {tb : Bool} {fi : Sg → M (List Vl × Gu)} {ft : Vl → Sg → M Sg} {ff : Sg → M Bool} {fk fv : Sg → M Vl} {vs : List Nat} {σ : L2.St} {H : Hp} {Q : VK}
    (h : dE L E (fun σ => (fi σ).bind fun p => (dcp p.2 (accD ft ff fk fv (wipeA σ vs)) p.1 (dict0 tb)).bind fun d => alloc d) σ H Q) :
    tDcA (dict0H tb) (dI L E fi) (dG L E0 vs ft) (dB L E0 ff) (dE L E0 fk) (dE L E0 fv) vs σ H Q := by
  obtain ⟨ρ, ah, σ', S, R, P⟩ := h
  refine ⟨ρ, ah, σ', S, R, P.bind.imp fun p ah1 ρ1 H1 st1 S1 P1 J hJ D hD => ?_⟩
  have R1 := SR.step S st1 R
  refine ⟨fun i m H => m = p.1.length - i ∧ i ≤ p.1.length ∧ ∃ ρi ahi d, Step ρ1 H1 ρi H ∧ Sim L ρi H ahi ∧ D ∉ ρi ∧ ObR L ρi H d D ∧ (∃ u, H D = some u ∧ lstLike u) ∧ EnvR L ρi H σ' σ ∧
    Post L E ρ1 H1 (((dcp p.2 (accD ft ff fk fv (wipeA σ' vs)) (p.1.drop i) d).bind fun d => alloc d) ahi) (VQ L Q), ⟨p.1.length, by simp, Nat.zero_le _, ρ1, ah1, dict0 tb, step_new hD, S1.new hD, S1.fresh hD, ?_, ?_, SR.step S1 (step_new hD) R1, P1⟩, ?_⟩
  · cases tb
    · exact .dK upd_same .nil
    · exact .dT upd_same .nil
  · cases tb
    · exact ⟨_, upd_same, trivial⟩
    · exact ⟨_, upd_same, trivial⟩
  rintro i m Hi ⟨rfl, hi, ρi, ahi, d, sti, Si, nD, bD, ⟨uD, eD, lD⟩, Ri, Pi⟩
  have ntD : nt uD := by
    refine ⟨fun _ z => ?_, fun _ z => ?_⟩ <;> (subst z; exact lD)
  by_cases hlt : i < p.1.length
  · right
    rw [List.drop_eq_getElem_cons hlt] at Pi
    obtain ⟨hc, o, ah', hb, Pn⟩ := dcp_cons Pi
    have hx : p.1[i]? = some p.1[i] := List.getElem?_eq_getElem hlt
    obtain ⟨hgo, hy⟩ := (hJ i ρi Hi ahi sti Si hc).1 _ hx
    refine ⟨hgo, fun H' => i + 1 ≤ p.1.length ∧ ∃ ρi ahi d, Step ρ1 H1 ρi H' ∧ Sim L ρi H' ahi ∧ D ∉ ρi ∧ ObR L ρi H' d D ∧ (∃ u, H' D = some u ∧ lstLike u) ∧ EnvR L ρi H' σ' σ ∧
      Post L E ρ1 H1 (((dcp p.2 (accD ft ff fk fv (wipeA σ' vs)) (p.1.drop (i + 1)) d).bind fun d => alloc d) ahi) (VQ L Q), fun H' h' => ⟨p.1.length - (i + 1), by omega, rfl, h'⟩, fun v H2 hv => ?_⟩
    obtain ⟨st2, S2, rv⟩ := hy v H2 hv
    have B := Post.of_eq (L := L) (E := E0) (ρ := ρi) (H := H2) hb
    refine ⟨ρi, ahi, wipeA σ' vs, p.1[i], S2, EnvR.wipe (SR.step Si st2 Ri) vs, rv, B.bind.imp fun σ1 ah3 ρ3 H3 st3 S3 P3 σ3 R3 hw => ?_⟩
    refine ⟨by rw [hw, wipe_idem σ vs vs fun _ h => h], ρ3, ah3, σ1, S3, R3, P3.bind.imp fun k ah4 ρ4 H4 st4 S4 P4 => ?_⟩
    have stA := (st2.trans S2 (st3.trans S3 st4))
    have keyD : H4 D = some uD := stA.keep _ _ eD nD ntD
    have nD4 : D ∉ ρ4 := stA.out nD eD ntD.1
    have stB := sti.trans Si stA
    have bD4 : ObR L ρ4 H4 d D := bD.step Si stA fun ho e => by rw [eD] at e; cases e; exact keyD
    cases k with
    | false =>
      simp only [Bool.false_eq_true, if_false] at P4 ⊢
      obtain ⟨eo, ea, _⟩ := P4.ret S4
      subst eo ea
      exact ⟨hlt, ρ4, ah4, d, stB, S4, nD4, bD4, ⟨_, keyD, lD⟩, SR.step Si stA Ri, Pn⟩
    | true =>
      simp only [if_true] at P4 ⊢
      refine ⟨ρ4, ah4, σ1, S4, SR.step S3 st4 R3, P4.bind.imp fun y ah5 ρ5 H5 st5 S5 P5 yv ry => ⟨ρ5, ah5, σ1, S5, SR.step S4 st5 (SR.step S3 st4 R3), P5.bind.imp fun z ah6 ρ6 H6 st6 S6 P6 zv rz => ?_⟩⟩
      obtain ⟨eo, ea, _⟩ := P6.ret S6
      subst eo ea
      have stC := stA.trans S4 (st5.trans S5 st6)
      have keyD6 : H6 D = some uD := stC.keep _ _ eD nD ntD
      have nD6 : D ∉ ρ6 := stC.out nD eD ntD.1
      have bD6 : ObR L ρ6 H6 d D := bD.step Si stC fun ho e => by rw [eD] at e; cases e; exact keyD6
      obtain ⟨dd, hdd⟩ := put_def Pn
      obtain ⟨d', u, w, e1, e2, gp, bd, hput⟩ := put_ok (E := E) (Φ := fun _ _ _ _ => True) S6 bD6 (ry.step S5 st6) rz (by rw [hdd]; exact fun _ _ _ _ => trivial)
      refine ⟨_, gp, hlt, ρ6, ah6, d', (sti.trans Si stC).side hD, S6.side e1 e2 nD6, nD6, bd, ?_, Paired.mapP (SR.step Si stC Ri) fun _ _ q => OR.side (side_tup e1 e2) q, put_next hput Pn⟩
      rcases gp with ⟨kvs, k, g1, _, _, g2⟩ | ⟨kvs, k, b, g1, _, _, _, g2⟩
      · exact ⟨.dK _, by rw [g2]; exact upd_same, trivial⟩
      · exact ⟨.dT _, by rw [g2]; exact upd_same, trivial⟩
  · left
    have ei : i = p.1.length := by omega
    subst ei
    rw [List.drop_length] at Pi
    obtain ⟨hc, Pn⟩ := dcp_nil Pi
    refine ⟨(hJ _ ρi Hi ahi sti Si hc).2 (Nat.le_refl _), ?_⟩
    refine Pn (ρi ++ [D]) Hi ⟨?_, fun a o e h z => sti.keep a o e h z, fun a y e h lv => ?_, sti.owd⟩ (Si.num nD bD) _ (Rep.last Si.len.symm)
    · obtain ⟨δ, e, nn⟩ := sti.pre
      refine ⟨δ ++ [D], by rw [e, List.append_assoc], fun a ha o eo z => ?_⟩
      rcases List.mem_append.mp ha with ha | ha
      · exact nn a ha o eo z
      · rw [List.mem_singleton.mp ha, hD] at eo; cases eo
    · rcases sti.own a y e h lv with q | ⟨q1, q2⟩
      · exact .inl q
      · exact .inr ⟨List.mem_append_left _ q1, q2⟩
end
end Ip

set_option Elab.async false
set_option linter.all false
set_option maxRecDepth 100000
set_option maxHeartbeats 8000000
namespace Ip
open PySem PySem.Spec PyProof.Rows L2
section
variable {L : Lw} {T : List Fn} {n : Nat} {cf : Orc} {E : XK} {X : Cx} {ρ : List Addr} {H : Hp} {ah : AH} {α β : Type}
theorem lp_end {J : It} {g : Gu} {xs : List Vl} {ρ0 : List Addr} {H0 : Hp} {body : Vl → M Unit} {i : Nat} {Φ : Unit → AH → List Addr → Hp → Prop} (hJ : Src L J g xs ρ0 H0) (st : Step ρ0 H0 ρ H) (S : Sim L ρ H ah) (hi : xs.length ≤ i) (P : Post L E ρ H (lp g body (xs.drop i) ah) Φ) : J.stop i H ∧ Φ () ah ρ H := by
  rw [List.drop_eq_nil_of_le hi, lp] at P
  have hc : chk g ah = .ok () ah := chk_none fun z => by rw [z] at P; exact P
  refine ⟨(hJ i ρ H ah st S hc).2 hi, ?_⟩
  rw [hc] at P
  exact P ρ H Step.refl S
theorem lp_turn {J : It} {g : Gu} {xs : List Vl} {ρ0 : List Addr} {H0 : Hp} {body : Vl → M Unit} {i : Nat} {Φ : Unit → AH → List Addr → Hp → Prop} (hJ : Src L J g xs ρ0 H0) (st : Step ρ0 H0 ρ H) (S : Sim L ρ H ah) (hi : i < xs.length) (P : Post L E ρ H (lp g body (xs.drop i) ah) Φ) :
    J.go i H ∧ ∀ v H', J.yld i H v H' → Step ρ H ρ H' ∧ Sim L ρ H' ah ∧ Rep L ρ H' xs[i] v ∧ Post L E0 ρ H' (body xs[i] ah) (fun _ ah2 ρ2 H2 => Step ρ H' ρ2 H2 ∧ Post L E ρ2 H2 (lp g body (xs.drop (i + 1)) ah2) Φ) := by
  rw [List.drop_eq_getElem_cons hi, lp] at P
  have hc : chk g ah = .ok () ah := chk_none fun z => by
    unfold M.bind at P
    simp only [z] at P
    exact P
  obtain ⟨h1, h2⟩ := (hJ i ρ H ah st S hc).1 _ (List.getElem?_eq_getElem hi)
  refine ⟨h1, fun v H' hv => ?_⟩
  obtain ⟨st2, S2, rv⟩ := h2 v H' hv
  refine ⟨st2, S2, rv, ?_⟩
  unfold M.bind at P
  simp only [hc] at P
  cases q : body xs[i] ah with
  | ok a ah' =>
    unfold Ip.noex at P
    simp only [q] at P
    exact fun ρ2 H2 st3 S3 => ⟨st3, Post.move P S3 (st2.trans S2 st3)⟩
  | ex c p h' =>
    unfold Ip.noex at P
    simp only [q] at P
    exact False.elim P
  | no =>
    unfold Ip.noex at P
    simp only [q] at P
    exact False.elim P
theorem app_ok' {r' y' : Vl} {D : Addr} {y : V} {Φ : Unit → AH → List Addr → Hp → Prop} (S : Sim L ρ H ah) (hr : Rep L ρ H r' (.ref D)) (hy : Rep L ρ H y' y) (P : Post L E ρ H (appV r' y' ah) Φ) :
    ∃ acc ah', H D = some (.lst acc) ∧ acc.length < sizeLine ∧ Step ρ H ρ (upd H D (.lst (acc ++ [y]))) ∧ Sim L ρ (upd H D (.lst (acc ++ [y]))) ah' ∧ Φ () ah' ρ (upd H D (.lst (acc ++ [y]))) := by
  cases hr with
  | ref e =>
    obtain ⟨o, _, b1, P⟩ := Post.rd S e P
    cases b1 with
    | @lst zs vs _ q r =>
      obtain ⟨h, P⟩ := Post.guard P
      have hl : vs.length < sizeLine := by rw [← r.length, ← line_eq]; exact Nat.le_of_ble_eq_true h
      have S2 := S.set (ho := .lst (vs ++ [y])) (o := .lst (zs ++ [y'])) e fun H' st e2 => .lst e2 ((r.step S st).snoc (hy.step S st))
      exact ⟨vs, _, q, hl, step_set e, S2, P _ _ (step_set e) S2⟩
    | _ => exact False.elim P
  | _ => exact False.elim P
theorem lc2_den {fi fi1 : Sg → M (List Vl × Gu)} {ft ft1 : Vl → Sg → M Sg} {ff ff1 : Sg → M Bool} {fe : Sg → M Vl} {vs vs1 : List Nat} {σ : L2.St} {H : Hp} {Q : VK}
    (h : dE L E (fun σ => (fi σ).bind fun p => (alloc (.lst [])).bind fun r => (lp p.2 (outB ft ff fi1 ft1 ff1 (fun σ2 => (fe σ2).bind fun y => appV r y) vs vs1 σ) p.1).bind fun _ => ret r) σ H Q) :
    tLc2 (dI L E fi) (dG L E0 vs ft) (dB L E0 ff) (dI L E0 fi1) (dG L E0 vs1 ft1) (dB L E0 ff1) (dE L E0 fe) vs vs1 σ H Q := by
  obtain ⟨ρ, ah, σ', S, R, P⟩ := h
  refine ⟨ρ, ah, σ', S, R, P.bind.imp fun p ah1 ρ1 H1 st1 S1 P1 J hJ D hD => ?_⟩
  have R1 := SR.step S st1 R
  -- the new list is numbered
  have SD : Sim L (ρ1 ++ [D]) (upd H1 D (.lst [])) (ah1 ++ [.lst []]) := S1.push hD fun _ _ _ e => .lst e .nil
  have stD : Step ρ1 H1 (ρ1 ++ [D]) (upd H1 D (.lst [])) := step_num hD
  have rD : Rep L (ρ1 ++ [D]) (upd H1 D (.lst [])) (.ref ah1.length) (.ref D) := Rep.last S1.len.symm
  have PD : Post L E (ρ1 ++ [D]) (upd H1 D (.lst [])) (((lp p.2 (outB ft ff fi1 ft1 ff1 (fun σ2 => (fe σ2).bind fun y => appV (Vl.ref ah1.length) y) vs vs1 σ') p.1).bind fun _ => ret (.ref ah1.length)) (ah1 ++ [.lst []])) (VQ L Q) :=
    Post.move (show Post L E ρ1 H1 (((lp p.2 (outB ft ff fi1 ft1 ff1 (fun σ2 => (fe σ2).bind fun y => appV (Vl.ref ah1.length) y) vs vs1 σ') p.1).bind fun _ => ret (.ref ah1.length)) (ah1 ++ [.lst []])) (VQ L Q) from P1) SD stD
  have PD := PD.bind
  refine ⟨fun i m H => m = p.1.length - i ∧ i ≤ p.1.length ∧ ∃ ρi ahi, Step (ρ1 ++ [D]) (upd H1 D (.lst [])) ρi H ∧ Sim L ρi H ahi ∧ EnvR L ρi H σ' σ ∧
    Post L E ρi H (lp p.2 (outB ft ff fi1 ft1 ff1 (fun σ2 => (fe σ2).bind fun y => appV (Vl.ref ah1.length) y) vs vs1 σ') (p.1.drop i) ahi) (fun _ ah2 ρ2 H2 => Post L E ρ2 H2 (Ip.ret (Vl.ref ah1.length) ah2) (VQ L Q)),
    ⟨p.1.length, by simp, Nat.zero_le _, ρ1 ++ [D], ah1 ++ [.lst []], Step.refl, SD, SR.step S1 stD R1, (by rw [List.drop_zero]; exact PD)⟩, ?_⟩
  rintro i m Hi ⟨rfl, hi, ρi, ahi, sti, Si, Ri, Pi⟩
  have st0 := stD.trans SD sti
  have rDi := rD.step SD sti
  by_cases hlt : i < p.1.length
  · right
    obtain ⟨hgo, hy⟩ := lp_turn hJ st0 Si hlt Pi
    refine ⟨hgo, fun H' => i + 1 ≤ p.1.length ∧ ∃ ρi ahi, Step (ρ1 ++ [D]) (upd H1 D (.lst [])) ρi H' ∧ Sim L ρi H' ahi ∧ EnvR L ρi H' σ' σ ∧
      Post L E ρi H' (lp p.2 (outB ft ff fi1 ft1 ff1 (fun σ2 => (fe σ2).bind fun y => appV (Vl.ref ah1.length) y) vs vs1 σ') (p.1.drop (i + 1)) ahi) (fun _ ah2 ρ2 H2 => Post L E ρ2 H2 (Ip.ret (Vl.ref ah1.length) ah2) (VQ L Q)),
      fun H' h' => ⟨p.1.length - (i + 1), by omega, rfl, h'⟩, fun v H2 hv => ?_⟩
    obtain ⟨st2, S2, rv, B⟩ := hy v H2 hv
    refine ⟨ρi, ahi, wipeA σ' vs, p.1[i], S2, EnvR.wipe (SR.step Si st2 Ri) vs, rv, B.bind.imp fun σ1 ah3 ρ3 H3 st3 S3 P3 σ3 R3 hw => ?_⟩
    refine ⟨by rw [hw, wipe_idem σ vs vs fun _ h => h], ρ3, ah3, σ1, S3, R3, P3.bind.imp fun k ah4 ρ4 H4 st4 S4 P4 => ?_⟩
    cases k with
    | false =>
      simp only [Bool.false_eq_true, if_false] at P4 ⊢
      obtain ⟨stB, Pn⟩ := P4.ret S4
      have stA := sti.trans Si (st2.trans S2 stB)
      exact ⟨hlt, ρ4, ah4, stA, S4, SR.step Si (st2.trans S2 stB) Ri, Pn⟩
    | true =>
      simp only [if_true] at P4 ⊢
      refine ⟨ρ4, ah4, σ1, S4, SR.step S3 st4 R3, P4.bind.imp fun p1 ah5 ρ5 H5 st5 S5 P5 J1 hJ1 => ?_⟩
      have R5 := SR.step S4 st5 (SR.step S3 st4 R3)
      refine ⟨fun j k H => k = p1.1.length - j ∧ j ≤ p1.1.length ∧ ∃ ρj ahj, Step ρ5 H5 ρj H ∧ Sim L ρj H ahj ∧ EnvR L ρj H σ1 σ3 ∧
        Post L E0 ρj H (lp p1.2 (inB ft1 ff1 (fun σ2 => (fe σ2).bind fun y => appV (Vl.ref ah1.length) y) vs1 σ1) (p1.1.drop j) ahj) (fun _ ah2 ρ2 H2' => Step ρi H2 ρ2 H2' ∧ Post L E ρ2 H2' (lp p.2 (outB ft ff fi1 ft1 ff1 (fun σ2 => (fe σ2).bind fun y => appV (Vl.ref ah1.length) y) vs vs1 σ') (p.1.drop (i + 1)) ah2) (fun _ ah2 ρ2 H2 => Post L E ρ2 H2 (Ip.ret (Vl.ref ah1.length) ah2) (VQ L Q))),
        ⟨p1.1.length, by simp, Nat.zero_le _, ρ5, ah5, Step.refl, S5, R5, (by rw [List.drop_zero]; exact P5)⟩, ?_⟩
      rintro j k Hj ⟨rfl, hj, ρj, ahj, stj, Sj, Rj, Pj⟩
      by_cases hltj : j < p1.1.length
      · right
        obtain ⟨hgo1, hy1⟩ := lp_turn hJ1 stj Sj hltj Pj
        refine ⟨hgo1, fun H' => j + 1 ≤ p1.1.length ∧ ∃ ρj ahj, Step ρ5 H5 ρj H' ∧ Sim L ρj H' ahj ∧ EnvR L ρj H' σ1 σ3 ∧
          Post L E0 ρj H' (lp p1.2 (inB ft1 ff1 (fun σ2 => (fe σ2).bind fun y => appV (Vl.ref ah1.length) y) vs1 σ1) (p1.1.drop (j + 1)) ahj) (fun _ ah2 ρ2 H2' => Step ρi H2 ρ2 H2' ∧ Post L E ρ2 H2' (lp p.2 (outB ft ff fi1 ft1 ff1 (fun σ2 => (fe σ2).bind fun y => appV (Vl.ref ah1.length) y) vs vs1 σ') (p.1.drop (i + 1)) ah2) (fun _ ah2 ρ2 H2 => Post L E ρ2 H2 (Ip.ret (Vl.ref ah1.length) ah2) (VQ L Q))),
          fun H' h' => ⟨p1.1.length - (j + 1), by omega, rfl, h'⟩, fun w H6 hw6 => ?_⟩
        obtain ⟨st6, S6, rw6, B1⟩ := hy1 w H6 hw6
        refine ⟨ρj, ahj, wipeA σ1 vs1, p1.1[j], S6, EnvR.wipe (SR.step Sj st6 Rj) vs1, rw6, B1.bind.imp fun σ7 ah7 ρ7 H7 st7 S7 P7 σ8 R8 hw8 => ?_⟩
        refine ⟨by rw [hw8, wipe_idem σ3 vs1 vs1 fun _ h => h], ρ7, ah7, σ7, S7, R8, P7.bind.imp fun k ah8 ρ8 H8 st8 S8 P8 => ?_⟩
        cases k with
        | false =>
          simp only [Bool.false_eq_true, if_false] at P8 ⊢
          obtain ⟨stB, Pn⟩ := P8.ret S8
          exact ⟨hltj, ρ8, ah8, stj.trans Sj (st6.trans S6 stB), S8, SR.step Sj (st6.trans S6 stB) Rj, Pn⟩
        | true =>
          simp only [if_true] at P8 ⊢
          refine ⟨ρ8, ah8, σ7, S8, SR.step S7 st8 R8, P8.bind.imp fun y ah9 ρ9 H9 st9 S9 P9 yv ry => ?_⟩
          have stT : Step ρj H6 ρ9 H9 := st7.trans S7 (st8.trans S8 st9)
          have rD9 : Rep L ρ9 H9 (.ref ah1.length) (.ref D) := ((((((rDi.step Si st2).step S2 st3).step S3 st4).step S4 st5).step S5 stj).step Sj st6).step S6 stT
          obtain ⟨acc, ah10, e1, e2, st10, S10, stB, Pn⟩ := app_ok' S9 rD9 ry P9
          exact ⟨acc, e1, e2, hltj, ρ9, ah10, stj.trans Sj (st6.trans S6 stB), S10, SR.step Sj (st6.trans S6 stB) Rj, Pn⟩
      · left
        obtain ⟨hs, stB, Pn⟩ := lp_end hJ1 stj Sj (Nat.le_of_not_lt hltj) Pj
        exact ⟨hs, hlt, ρj, ahj, sti.trans Si (st2.trans S2 stB), Sj, SR.step Si (st2.trans S2 stB) Ri, Pn⟩
  · left
    obtain ⟨hs, q⟩ := lp_end hJ st0 Si (Nat.le_of_not_lt hlt) Pi
    exact ⟨hs, Post.ret q Si _ rDi⟩
end
end Ip

set_option Elab.async false
set_option linter.all false
set_option maxRecDepth 100000
set_option maxHeartbeats 8000000
namespace Ip
open PySem PySem.Spec PyProof.Rows L2

/-! ### {k: v for .. for ..} -/
section
variable {prog : Program} {w : World} {A : Around} {R : Result → Shared → Prop} {s : Shared} {kx vx t0 i0 t1 i1 : Expr} {ifs0 ifs1 : List Expr} {scope : Scope} {pos : Pos} {it : Value} {D : Addr} {env : Env}
theorem turn2_outD (acc : Value) : compTurn (.DictComp kx vx [⟨t0, i0, ifs0, 0⟩, ⟨t1, i1, ifs1, 0⟩] scope pos) 0 it acc env = (do
      standAt i0.pos
      match ← pyNext it with
      | none => pure (.done .next)
      | some v =>
        letOwnedTupleGo t0 it v
        assign t0 env v
        let mut ok := true
        for c in ifs0 do
          if ok then ok ← isTrue c env (eval c env)
        if ok then
          let x ← eval i1 env
          standAt i1.pos
          let x ← foldedSetIterable i1 env x
          let _ ← runOwn (.compStart (.DictComp kx vx [⟨t0, i0, ifs0, 0⟩, ⟨t1, i1, ifs1, 0⟩] scope pos) 1 (← holding [x] (pyIter x)) acc env) env
        again (.compLoop (.DictComp kx vx [⟨t0, i0, ifs0, 0⟩, ⟨t1, i1, ifs1, 0⟩] scope pos) 0 it acc env)) := by rfl
theorem turn2_inD : compTurn (.DictComp kx vx [⟨t0, i0, ifs0, 0⟩, ⟨t1, i1, ifs1, 0⟩] scope pos) 1 it (.ref D) env = (do
      standAt i1.pos
      match ← pyNext it with
      | none => pure (.done .next)
      | some v =>
        letOwnedTupleGo t1 it v
        assign t1 env v
        let mut ok := true
        for c in ifs1 do
          if ok then ok ← isTrue c env (eval c env)
        if ok then
          (do
            let kv ← eval kx env
            let vv ← holding [kv] (eval vx env)
            standAt { kx.pos with endLine := vx.pos.endLine, endCol := vx.pos.endCol }
            holding [kv, vv] (dictSet D kv vv))
        again (.compLoop (.DictComp kx vx [⟨t0, i0, ifs0, 0⟩, ⟨t1, i1, ifs1, 0⟩] scope pos) 1 it (.ref D) env)) := by rfl
theorem loop2_outD {acc : Value} (hs : ∀ x, foldedSetIterable i1 env x = pure x) (I : Nat → Shared → Prop)
    (turn : ∀ n s, I n s → wpAny (model prog w) A (pyNext it) (fun r s₁ => match r with
      | none => R (.ok .next) s₁
      | some v => wpAny (model prog w) A (letOwnedTupleGo t0 it v) (fun _ s₁' => wpAny (model prog w) A (assign t0 env v) (fun _ s₂ =>
          wpAny (model prog w) A (forIn ifs0 true fun c r => if r = true then do let ok ← isTrue c env (eval c env); pure (ForInStep.yield ok) else pure (ForInStep.yield r)) (fun ok s₃ =>
            if ok = true then wpAny (model prog w) A (eval i1 env) (fun x s₄ => wpAny (model prog w) A (pyIter x) (fun it1 s₅ =>
              codeAny (model prog w) A (.compStart (.DictComp kx vx [⟨t0, i0, ifs0, 0⟩, ⟨t1, i1, ifs1, 0⟩] scope pos) 1 it1 acc env) (fun r s' => match r with
                | .ok _ => ∃ m, m < n ∧ I m s'
                | .error _ => False) s₅) (notedBy (model prog w) A env fun e s' => R (.error e) s') s₄) (notedBy (model prog w) A env fun e s' => R (.error e) s') s₃
            else ∃ m, m < n ∧ I m s₃) (notedBy (model prog w) A env fun e s' => R (.error e) s') s₂) (notedBy (model prog w) A env fun e s' => R (.error e) s') s₁') (notedBy (model prog w) A env fun e s' => R (.error e) s') s₁) (notedBy (model prog w) A env fun e s' => R (.error e) s') s)
    (n : Nat) (h : I n s) :
    codeAny (model prog w) A (.compLoop (.DictComp kx vx [⟨t0, i0, ifs0, 0⟩, ⟨t1, i1, ifs1, 0⟩] scope pos) 0 it acc env) R s := by
  refine codeAny_loop rfl I (fun n s hI => ?_) n h
  show wpAny _ A ((compTurn (.DictComp kx vx [⟨t0, i0, ifs0, 0⟩, ⟨t1, i1, ifs1, 0⟩] scope pos) 0 it acc env).onRaise (fun x => do noteFrame x env; theTreesLotGoes x)) _ _ s
  refine wpAny_noted ?_
  rw [turn2_outD]
  refine wpAny_bind (wpAny_standAt (wpAny_bind (wpAny_mono (turn n s hI) (fun r s₁ h₁ => ?_) fun _ _ h' => h')))
  cases r with
  | none => exact wpAny_pure h₁
  | some v =>
    refine wpAny_bind (wpAny_mono h₁ (fun _ s₁' h₁' => ?_) fun _ _ h' => h')
    refine wpAny_bind (wpAny_mono h₁' (fun _ s₂ h₂ => wpAny_bind (wpAny_mono h₂ (fun ok s₃ h₃ => ?_) fun _ _ h' => h')) fun _ _ h' => h')
    cases ok with
    | false => exact wpAny_pure ⟨rfl, h₃⟩
    | true =>
      refine wpAny_bind (wpAny_mono h₃ (fun x s₄ h₄ => ?_) fun _ _ h' => h')
      refine wpAny_bind (wpAny_standAt (wpAny_bind (wpAny_of_eq (hs x) (wpAny_bind (wpAny_holding (wpAny_mono h₄ (fun it1 s₅ h₅ => ?_) fun _ _ h' => h'))))))
      refine wpAny_bind (wpAny_runOwn ?_)
      rw [Around.mark_none]
      refine codeAny_mono h₅ fun r s' hr => ?_
      cases r with
      | ok f =>
        first
          | exact wpAny_pure ⟨rfl, hr⟩
          | exact wpAny_bind (wpAny_pure (wpAny_pure ⟨rfl, hr⟩))
      | error e => exact hr.elim
theorem loop2_inD (I : Nat → Shared → Prop)
    (turn : ∀ n s, I n s → wpAny (model prog w) A (pyNext it) (fun r s₁ => match r with
      | none => R (.ok .next) s₁
      | some v => wpAny (model prog w) A (letOwnedTupleGo t1 it v) (fun _ s₁' => wpAny (model prog w) A (assign t1 env v) (fun _ s₂ =>
          wpAny (model prog w) A (forIn ifs1 true fun c r => if r = true then do let ok ← isTrue c env (eval c env); pure (ForInStep.yield ok) else pure (ForInStep.yield r)) (fun ok s₃ =>
            if ok = true then wpAny (model prog w) A (eval kx env) (fun kv s₄ => wpAny (model prog w) A (eval vx env) (fun vv s₅ =>
              wpAny (model prog w) A (dictSet D kv vv) (fun _ s₆ => ∃ m, m < n ∧ I m s₆) (notedBy (model prog w) A env fun e s' => R (.error e) s') s₅) (notedBy (model prog w) A env fun e s' => R (.error e) s') s₄) (notedBy (model prog w) A env fun e s' => R (.error e) s') s₃
            else ∃ m, m < n ∧ I m s₃) (notedBy (model prog w) A env fun e s' => R (.error e) s') s₂) (notedBy (model prog w) A env fun e s' => R (.error e) s') s₁') (notedBy (model prog w) A env fun e s' => R (.error e) s') s₁) (notedBy (model prog w) A env fun e s' => R (.error e) s') s)
    (n : Nat) (h : I n s) :
    codeAny (model prog w) A (.compLoop (.DictComp kx vx [⟨t0, i0, ifs0, 0⟩, ⟨t1, i1, ifs1, 0⟩] scope pos) 1 it (.ref D) env) R s := by
  refine codeAny_loop rfl I (fun n s hI => ?_) n h
  show wpAny _ A ((compTurn (.DictComp kx vx [⟨t0, i0, ifs0, 0⟩, ⟨t1, i1, ifs1, 0⟩] scope pos) 1 it (.ref D) env).onRaise (fun x => do noteFrame x env; theTreesLotGoes x)) _ _ s
  refine wpAny_noted ?_
  rw [turn2_inD]
  refine wpAny_bind (wpAny_standAt (wpAny_bind (wpAny_mono (turn n s hI) (fun r s₁ h₁ => ?_) fun _ _ h' => h')))
  cases r with
  | none => exact wpAny_pure h₁
  | some v =>
    refine wpAny_bind (wpAny_mono h₁ (fun _ s₁' h₁' => ?_) fun _ _ h' => h')
    refine wpAny_bind (wpAny_mono h₁' (fun _ s₂ h₂ => wpAny_bind (wpAny_mono h₂ (fun ok s₃ h₃ => ?_) fun _ _ h' => h')) fun _ _ h' => h')
    cases ok with
    | false => exact wpAny_pure ⟨rfl, h₃⟩
    | true =>
      exact wpAny_bind (wpAny_bind (wpAny_mono h₃ (fun kv s₄ h₄ => wpAny_bind (wpAny_holding (wpAny_mono h₄ (fun vv s₅ h₅ => wpAny_bind (wpAny_standAt (wpAny_holding (wpAny_mono h₅ (fun _ s₆ h₆ => wpAny_pure ⟨rfl, h₆⟩) fun _ _ h' => h')))) fun _ _ h' => h'))) fun _ _ h' => h'))
theorem start1_D {acc : Value} (h0 : codeAny (model prog w) A (.compLoop (.DictComp kx vx [⟨t0, i0, ifs0, 0⟩, ⟨t1, i1, ifs1, 0⟩] scope pos) 1 it acc env) R s)
    (h : wpAny (model prog w) A (pyIter it) (fun it' s' => codeAny (model prog w) A (.compLoop (.DictComp kx vx [⟨t0, i0, ifs0, 0⟩, ⟨t1, i1, ifs1, 0⟩] scope pos) 1 it' acc env) R s')
      (notedBy (model prog w) A env fun x s' => R (.error x) s') s) :
    codeAny (model prog w) A (.compStart (.DictComp kx vx [⟨t0, i0, ifs0, 0⟩, ⟨t1, i1, ifs1, 0⟩] scope pos) 1 it acc env) R s := by
  refine codeAny_of_tree ?_
  show wpAny _ _ ((compStart (.DictComp kx vx [⟨t0, i0, ifs0, 0⟩, ⟨t1, i1, ifs1, 0⟩] scope pos) 1 it acc env).onRaise (fun x => do noteFrame x env; standAt theWindowsPlace)) _ _ s
  refine wpAny_notedAt ?_
  unfold compStart
  show wpAny _ _ (ask >>= _) _ _ s
  refine wpAny_bind (wpAny_askSetting (wpAny_ite ?_))
  split
  · first
      | exact wpAny_bind (wpAny_pure (wpAny_pure (And.intro rfl h0)))
      | exact wpAny_pure (And.intro rfl h0)
  · first
      | exact wpAny_bind (wpAny_rule (wpAny_bind (wpAny_standAt (wpAny_bind (wpAny_mono h (fun it' s' h' => wpAny_pure (And.intro rfl h')) fun _ _ x => x)))))
      | (refine wpAny_bind (wpAny_rule ?_); show wpAny _ _ (standAt i1.pos >>= _) _ _ s; exact wpAny_bind (wpAny_standAt (wpAny_bind (wpAny_mono h (fun it' s' h' => wpAny_pure (And.intro rfl h')) fun _ _ x => x))))
end
section
variable {X : Cx}
def tDc2 (o0 : HO) (wi : TI) (g : TG) (tt : TT) (wi1 : TI) (g1 : TG) (tt1 : TT) (tk tv : TE) (vs vs1 : List Nat) : TE := fun σ H Q => wi σ H fun J H1 => ∀ D, H1 D = none → ∃ W : Nat → Nat → Hp → Prop, (∃ m, W 0 m (upd H1 D o0)) ∧ ∀ i m H, W i m H →
  (J.stop i H ∧ Q (.ref D) H) ∨ (J.go i H ∧ ∃ Nx : Hp → Prop, (∀ H', Nx H' → ∃ m', m' < m ∧ W (i + 1) m' H') ∧ ∀ x H', J.yld i H x H' → g x (wipe σ vs) H' fun σ2 H2 => wipe σ2 vs = wipe σ vs ∧ tt σ2 H2 fun b H3 =>
    if b = true then wi1 σ2 H3 fun J1 H4 => ∃ W1 : Nat → Nat → Hp → Prop, (∃ m, W1 0 m H4) ∧ ∀ j k H, W1 j k H →
      (J1.stop j H ∧ Nx H) ∨ (J1.go j H ∧ ∃ Nx1 : Hp → Prop, (∀ H', Nx1 H' → ∃ k', k' < k ∧ W1 (j + 1) k' H') ∧ ∀ x H', J1.yld j H x H' → g1 x (wipe σ2 vs1) H' fun σ3 H5 => wipe σ3 vs1 = wipe σ2 vs1 ∧ tt1 σ3 H5 fun b H6 =>
        if b = true then tk σ3 H6 fun y H7 => tv σ3 H7 fun z H8 => ∃ H9, DPut H8 D y z H9 ∧ Nx1 H9 else Nx1 H6)
    else Nx H3)
theorem dc2_core {pins : List (Addr × Obj)} {s : Shared} {σ : L2.St} {H : Hp} {Q : VK} {o0 : HO} {kx vx tg iter tg1 iter1 : Expr} {ifs ifs1 : List Expr} {scope : Scope} {own : List (Str × Nat)} {vs1 : List Nat} {pos pos' : Pos} {wi wi1 : TI} {g g1 : TG} {tt tt1 : TT} {tk tv : TE} {use : Option (Value → Sem Unit)} {Qf : Value → Shared → Prop}
    (h0 : isD0 o0) (hu : X.A.units + 1 < cLine) (hc : X.calm = true) (hN : X.N.Nodup) (I : L2.Inv X pins σ H s) (hi : PI X tg iter wi) (ok : BlkOk X.N X.env.scope scope own) (hv : ∀ i ∈ vs1, i ∈ own.map (·.2))
    (hg : ∀ (s : Shared) (H : Hp) (C : Addr) (cl : List (Str × Addr)) (fp : List Addr), PG (X.blk s H scope (compEnvC scope cl C X.env) fp) tg g) (ht : ∀ (s : Shared) (H : Hp) (C : Addr) (cl : List (Str × Addr)) (fp : List Addr), PTs (X.blk s H scope (compEnvC scope cl C X.env) fp) ifs tt)
    (hk : ∀ (s : Shared) (H : Hp) (C : Addr) (cl : List (Str × Addr)) (fp : List Addr), PE (X.blk s H scope (compEnvC scope cl C X.env) fp) kx tk)
    (he : ∀ (s : Shared) (H : Hp) (C : Addr) (cl : List (Str × Addr)) (fp : List Addr), PE (X.blk s H scope (compEnvC scope cl C X.env) fp) vx tv) (hs : ∀ x, foldedSetIterable iter X.env x = pure x)
    (hi1 : ∀ (s : Shared) (H : Hp) (C : Addr) (cl : List (Str × Addr)) (fp : List Addr), PI (X.blk s H scope (compEnvC scope cl C X.env) fp) tg1 iter1 wi1)
    (hg1 : ∀ (s : Shared) (H : Hp) (C : Addr) (cl : List (Str × Addr)) (fp : List Addr), PG (X.blk s H scope (compEnvC scope cl C X.env) fp) tg1 g1)
    (ht1 : ∀ (s : Shared) (H : Hp) (C : Addr) (cl : List (Str × Addr)) (fp : List Addr), PTs (X.blk s H scope (compEnvC scope cl C X.env) fp) ifs1 tt1)
    (hs1 : ∀ env x, foldedSetIterable iter1 env x = pure x)
    (h : tDc2 o0 wi g tt wi1 g1 tt1 tk tv (own.map (·.2)) vs1 σ H Q)
    (hRR : ∀ D C s' m H', L2.Inv X pins σ H' s' → Q (.ref D) H' → s'.heap.Ns C m → FpOk X pins H' C → compPost (model X.prog X.w) X.A X.xe use Qf (.ref D) C (.ok .next) s') :
    wpAny (model X.prog X.w) X.A (comprehension (.DictComp kx vx [⟨tg, iter, ifs, 0⟩, ⟨tg1, iter1, ifs1, 0⟩] scope pos) scope X.env pos' newDict false (eval iter X.env) use) Qf X.xe s := by
  have hfree : ∀ y ∈ scope.names, y.2 = .free → ∃ c, X.env.cells.lookup y.1 = some c := fun y hy e => by
    rcases ok.free y hy e with k | k
    · exact I.ok.has _ (.inl k)
    · exact I.ok.has _ (.inr k)
  refine wpAny_comprehension_free (use := use) rfl hs (closure_ok hfree) ok.kind (fun y hy e => by rw [ok.uniq y hy, e])
    (thn (hi.run pins s σ H _ I h) fun xv s1 hx => thn hx fun itv s2 h2 => ?_)
  obtain ⟨it, fp, tn, J, H2, e, I2, T, st2, f2, q⟩ := h2
  subst e
  refine wpAny_newObj_type (newEnv_comp ?_)
  generalize hD : s2.heap.objs.size = D
  have hDn : H2 D = none := I2.hok.fresh (Nat.le_of_eq hD)
  obtain ⟨W, ⟨m0, w0⟩, turn⟩ := q D hDn
  generalize hs3 : ({ s2 with heap := s2.heap.push { cls := .type "dict", data := .dict #[] } } : Shared) = s3
  have I3 : L2.Inv X pins σ (upd H2 D o0) s3 := by
    rw [← hs3]
    refine I2.laid (t' := s2.toks) (fun b o e => Heap.get?_push_of_some _ e) (Nat.le_of_eq hD) ?_
    rw [← hD]
    exact d0_ok h0 s2.heap I2.big
  have h3 : s3.heap = s2.heap.push { cls := .type "dict", data := .dict #[] } := by rw [← hs3]
  have sz : ∀ b ∈ fp, b < s2.heap.objs.size := fun b hb => by
    obtain ⟨o, e, _⟩ := T.obj _ _ st2 b hb
    exact Heap.lt_size e
  have f3 : ∀ b ∈ fp, FpOk X pins (upd H2 D o0) b ∧ b < s3.heap.objs.size := fun b hb => by
    have hlt := sz b hb
    refine ⟨⟨?_, (f2 b hb).2⟩, by rw [h3, Heap.size_push]; exact Nat.lt_succ_of_lt hlt⟩
    rw [upd_ne (by rw [← hD]; exact Nat.ne_of_lt hlt)]
    exact (f2 b hb).1
  have st3 : tn 0 s3.heap := T.keep _ _ _ st2 fun b _ o e => by rw [h3]; exact Heap.get?_push_of_some _ e
  have I4 := block_start I3 ok hN f3
  have pg := hg s3 (upd H2 D o0) s3.heap.objs.size (cellsFrom (s3.heap.objs.size + 1) scope.names (cloFrom X.env.cells scope.names [])) fp
  have pt := ht s3 (upd H2 D o0) s3.heap.objs.size (cellsFrom (s3.heap.objs.size + 1) scope.names (cloFrom X.env.cells scope.names [])) fp
  have pk := hk s3 (upd H2 D o0) s3.heap.objs.size (cellsFrom (s3.heap.objs.size + 1) scope.names (cloFrom X.env.cells scope.names [])) fp
  have pe := he s3 (upd H2 D o0) s3.heap.objs.size (cellsFrom (s3.heap.objs.size + 1) scope.names (cloFrom X.env.cells scope.names [])) fp
  have pi1 := hi1 s3 (upd H2 D o0) s3.heap.objs.size (cellsFrom (s3.heap.objs.size + 1) scope.names (cloFrom X.env.cells scope.names [])) fp
  have pg1 := hg1 s3 (upd H2 D o0) s3.heap.objs.size (cellsFrom (s3.heap.objs.size + 1) scope.names (cloFrom X.env.cells scope.names [])) fp
  have pt1 := ht1 s3 (upd H2 D o0) s3.heap.objs.size (cellsFrom (s3.heap.objs.size + 1) scope.names (cloFrom X.env.cells scope.names [])) fp
  show codeAny _ _ (.compStart (.DictComp kx vx [⟨tg, iter, ifs, 0⟩, ⟨tg1, iter1, ifs1, 0⟩] scope pos) 0 (.ref it) (.ref D) (compEnvC scope (cellsFrom (s3.heap.objs.size + 1) scope.names (cloFrom X.env.cells scope.names [])) s3.heap.objs.size X.env)) (compPost (model X.prog X.w) X.A X.xe use Qf (.ref D) s3.heap.objs.size) { s3 with heap := pushCells (s3.heap.push { cls := .type "dict", data := .dict #[] }) scope.names }
  have nfp : ∀ b ∈ fp, (upd H2 D o0) b = none := fun b hb => (f3 b hb).1.1
  generalize hce : compEnvC scope (cellsFrom (s3.heap.objs.size + 1) scope.names (cloFrom X.env.cells scope.names [])) s3.heap.objs.size X.env = ce at I4 pg pt pk pe pi1 pg1 pt1 ⊢
  have cL : ce.locals = s3.heap.objs.size := by subst hce; rfl
  generalize hH3 : upd H2 D o0 = H3 at I3 I4 pg pt pk pe pi1 pg1 pt1 w0 nfp f3
  generalize hs4 : ({ s3 with heap := pushCells (s3.heap.push { cls := .type "dict", data := .dict #[] }) scope.names } : Shared) = s4 at I4 ⊢
  have st4 : tn 0 s4.heap := T.keep _ _ _ st3 fun b _ o e => by rw [← hs4]; exact pushCells_keeps _ _ _ _ (Heap.get?_push_of_some _ e)
  have stat : ∀ {σ' : L2.St} {H' : Hp} {s' : Shared}, L2.Inv (X.blk s3 H3 scope ce fp) [] σ' H' s' → (∀ b ∈ fp, H' b = none) → ∀ b ∈ fp, FpOk (X.blk s3 H3 scope ce fp) [] H' b := fun {σ' H' s'} I' hn b hb =>
    ⟨hn b hb, (I'.ok.exf b hb).1, I'.ok.exfs b hb, .inl hb, fun x c e => (I'.ok.exf b hb).2 x c e, fun p hp => absurd (show p ∈ ([] : List (Addr × Obj)) ++ [] from hp) (by simp)⟩
  have loop : codeAny (model X.prog X.w) X.A (.compLoop (.DictComp kx vx [⟨tg, iter, ifs, 0⟩, ⟨tg1, iter1, ifs1, 0⟩] scope pos) 0 (.ref it) (.ref D) ce) (compPost (model X.prog X.w) X.A X.xe use Qf (.ref D) s3.heap.objs.size) s4 := by
    refine loop2_outD (hs1 ce) (fun n s' => ∃ i H', L2.Inv (X.blk s3 H3 scope ce fp) [] (wipe σ (own.map (·.2))) H' s' ∧ tn i s'.heap ∧ (∀ b ∈ fp, H' b = none) ∧ W i n H') ?_ m0 ⟨0, H3, I4, st4, nfp, w0⟩
    rintro n s5 ⟨i, H5, I5, st5, n5, w5⟩
    rcases turn i n H5 w5 with ⟨stop, qq⟩ | ⟨go, Nx, hNx, step⟩
    · refine thnF (T.done (X.blk s3 H3 scope ce fp) rfl rfl rfl hc i [] s5 _ H5 (fun _ _ => False) I5 (stat I5 n5) st5 stop) fun r s6 ⟨hr, I6⟩ => ?_
      subst hr
      have I7 : L2.Inv X pins σ H5 s6 := I3.call' (ch := fp) I6.os I6.base I6.hok I6.bare fun b hb => ⟨(f3 b hb).1.2.2.2.1, (f3 b hb).1.2.1, (f3 b hb).1.2.2.2.2.1, (f3 b hb).1.2.2.2.2.2⟩
      have nC : H5 s3.heap.objs.size = none := by
        have z : H5 ce.locals = none := I6.free
        rw [cL] at z
        exact z
      obtain ⟨m, hn, _⟩ := I6.loc
      have hn : s6.heap.Ns ce.locals m := hn
      rw [cL] at hn
      exact hRR D s3.heap.objs.size s6 m H5 I7 qq hn (I3.fpOk (Nat.le_refl _) nC)
    · refine thnF (T.item (X.blk s3 H3 scope ce fp) rfl rfl rfl hc i [] s5 _ H5 (fun _ _ => False) I5 (stat I5 n5) st5 go) fun r s6 ⟨u, hr, h6⟩ => ?_
      subst hr
      refine thnF h6 fun _ s7 ⟨x, H7, I7, r7, y7, st7, n7⟩ => ?_
      have I7' := I7.pinned (stat I7 n7) (T.obj _ _ st7)
      refine thnF (pg.run _ s7 _ H7 x u _ I7' r7 (step x H7 y7)) fun _ s8 ⟨σ8, H8, I8, hw8, q8⟩ => ?_
      refine thnF (pt.run _ s8 σ8 H8 _ I8 q8) fun b s9 ⟨H9, I9, q9⟩ => ?_
      have fin : ∀ {σ9 : L2.St} {s' : Shared} {H' : Hp}, L2.Inv (X.blk s3 H3 scope ce fp) ([] ++ pinsAt fp s7.heap) σ9 H' s' → (wipe σ (own.map (·.2))).length = σ9.length → (∀ (j : Nat) v, (wipe σ (own.map (·.2)))[j]? = some (some v) → σ9[j]? = some (some v)) → Nx H' →
          ∃ m, m < n ∧ ∃ i H', L2.Inv (X.blk s3 H3 scope ce fp) [] (wipe σ (own.map (·.2))) H' s' ∧ tn i s'.heap ∧ (∀ b ∈ fp, H' b = none) ∧ W i m H' := fun {σ9 s' H'} I' hl hk nx => by
        obtain ⟨m', hm, w'⟩ := hNx H' nx
        have pin' : ∀ b ∈ fp, ∀ o, s7.heap.get? b = some o → s'.heap.get? b = some o ∧ H' b = none := fun b hb o e =>
          let z := I'.pin (b, o) (List.mem_append_right _ (List.mem_append_right _ (mem_pinsAt hb e)))
          ⟨z.1, z.2.1⟩
        refine ⟨m', hm, i + 1, H', (I'.unpinned (pins := [])).weak hl hk, T.keep _ _ _ st7 fun b hb o e => (pin' b hb o e).1, fun b hb => ?_, w'⟩
        obtain ⟨o, e, _⟩ := T.obj _ _ st7 b hb
        exact (pin' b hb o e).2
      have hl8 : (wipe σ (own.map (·.2))).length = σ8.length := by rw [← hw8, wipe_length]
      have hk8 : ∀ (j : Nat) v, (wipe σ (own.map (·.2)))[j]? = some (some v) → σ8[j]? = some (some v) := fun j v e => by
        rw [← hw8] at e
        exact (wipe_some e).1
      have hk9 : ∀ (j : Nat) v, (wipe σ (own.map (·.2)))[j]? = some (some v) → (wipe σ8 vs1)[j]? = some (some v) := fun j v e => by
        rw [← hw8] at e
        obtain ⟨e1, e2⟩ := wipe_some e
        rw [wipe_out fun z => e2 (hv j z)]
        exact e1
      cases b with
      | false =>
        simp only [Bool.false_eq_true, if_false] at q9 ⊢
        exact fin I9 hl8 hk8 q9
      | true =>
        simp only [if_true] at q9 ⊢
        refine thnF (pi1.run _ s9 σ8 H9 _ I9 q9) fun xv s10 hx => thnF hx fun itv s11 h11 => ?_
        obtain ⟨it1, fp1, tn1, J1, H11, e1, I11, T1, st11, f11, W1, ⟨m1, w1⟩, turn1⟩ := h11
        subst e1
        have stat1 : ∀ {H' : Hp}, (∀ b ∈ fp1, H' b = none) → ∀ b ∈ fp1, FpOk (X.blk s3 H3 scope ce fp) ([] ++ pinsAt fp s7.heap) H' b := fun hn b hb => ⟨hn b hb, (f11 b hb).2⟩
        have loop1 : codeAny (model X.prog X.w) X.A (.compLoop (.DictComp kx vx [⟨tg, iter, ifs, 0⟩, ⟨tg1, iter1, ifs1, 0⟩] scope pos) 1 (.ref it1) (.ref D) ce)
            (fun r s' => match r with
              | .ok _ => ∃ m, m < n ∧ ∃ i H', L2.Inv (X.blk s3 H3 scope ce fp) [] (wipe σ (own.map (·.2))) H' s' ∧ tn i s'.heap ∧ (∀ b ∈ fp, H' b = none) ∧ W i m H'
              | .error _ => False) s11 := by
          refine loop2_inD (fun k s' => ∃ j H', L2.Inv (X.blk s3 H3 scope ce fp) ([] ++ pinsAt fp s7.heap) (wipe σ8 vs1) H' s' ∧ tn1 j s'.heap ∧ (∀ b ∈ fp1, H' b = none) ∧ W1 j k H') ?_ m1 ⟨0, H11, I11.weak (wipe_length _ _) (fun j v e => (wipe_some e).1), st11, fun b hb => (f11 b hb).1, w1⟩
          rintro k s12 ⟨j, H12, I12, st12, n12, w12⟩
          rcases turn1 j k H12 w12 with ⟨stop1, nx1⟩ | ⟨go1, Nx1, hNx1, step1⟩
          · refine thnF (T1.done (X.blk s3 H3 scope ce fp) rfl rfl rfl hc j _ s12 (wipe σ8 vs1) H12 (fun _ _ => False) I12 (stat1 n12) st12 stop1) fun r s13 ⟨hr, I13⟩ => ?_
            subst hr
            exact fin I13 (hl8.trans (wipe_length σ8 vs1).symm) hk9 nx1
          · refine thnF (T1.item (X.blk s3 H3 scope ce fp) rfl rfl rfl hc j _ s12 (wipe σ8 vs1) H12 (fun _ _ => False) I12 (stat1 n12) st12 go1) fun r s13 ⟨u1, hr, h13⟩ => ?_
            subst hr
            refine thnF h13 fun _ s14 ⟨x1, H14, I14, r14, y14, st14, n14⟩ => ?_
            have I14' := I14.pinned (stat1 n14) (T1.obj _ _ st14)
            refine thnF (pg1.run _ s14 (wipe σ8 vs1) H14 x1 u1 _ I14' r14 (step1 x1 H14 y14)) fun _ s15 ⟨σ15, H15, I15, hw15, q15⟩ => ?_
            refine thnF (pt1.run _ s15 σ15 H15 _ I15 q15) fun b1 s16 ⟨H16, I16, q16⟩ => ?_
            have fin1 : ∀ {s' : Shared} {H' : Hp}, L2.Inv (X.blk s3 H3 scope ce fp) (([] ++ pinsAt fp s7.heap) ++ pinsAt fp1 s14.heap) σ15 H' s' → Nx1 H' → ∃ m, m < k ∧ ∃ j H', L2.Inv (X.blk s3 H3 scope ce fp) ([] ++ pinsAt fp s7.heap) (wipe σ8 vs1) H' s' ∧ tn1 j s'.heap ∧ (∀ b ∈ fp1, H' b = none) ∧ W1 j m H' := fun {s' H'} I' nx => by
              obtain ⟨m', hm, w'⟩ := hNx1 H' nx
              have pin' : ∀ b ∈ fp1, ∀ o, s14.heap.get? b = some o → s'.heap.get? b = some o ∧ H' b = none := fun b hb o e =>
                let z := I'.pin (b, o) (List.mem_append_right _ (List.mem_append_right _ (mem_pinsAt hb e)))
                ⟨z.1, z.2.1⟩
              refine ⟨m', hm, j + 1, H', I'.unpinned.weak (by rw [← hw15, wipe_length]) (fun j v e => by rw [← hw15] at e; exact (wipe_some e).1), T1.keep _ _ _ st14 fun b hb o e => (pin' b hb o e).1, fun b hb => ?_, w'⟩
              obtain ⟨o, e, _⟩ := T1.obj _ _ st14 b hb
              exact (pin' b hb o e).2
            cases b1 with
            | false =>
              simp only [Bool.false_eq_true, if_false] at q16 ⊢
              exact fin1 I16 q16
            | true =>
              simp only [if_true] at q16 ⊢
              refine thnF (pk.run _ s16 σ15 H16 _ I16 q16) fun z s17 ⟨yk, H17, I17, r17, q17⟩ => ?_
              refine thnF (pe.run _ s17 σ15 H17 _ I17 q17) fun z2 s18 ⟨yv, H18, I18, r18, H19, gp, nx⟩ => ?_
              exact dset_any (X := X.blk s3 H3 scope ce fp) hu I18 gp r17 r18 fun s19 I19 => fin1 I19 nx
        exact start1_D loop1 (T1.self X.A 0 _ _ _ st11 loop1)
  exact codeAny_compStart_dict loop (T.self X.A 0 _ _ _ st4 loop)
theorem pe_dc2 {o0 : HO} {kx vx tg iter tg1 iter1 : Expr} {ifs ifs1 : List Expr} {scope : Scope} {own : List (Str × Nat)} {vs1 : List Nat} {pos : Pos} {wi wi1 : TI} {g g1 : TG} {tt tt1 : TT} {tk tv : TE} (h0 : isD0 o0) (hu : X.A.units + 1 < cLine) (hc : X.calm = true) (hN : X.N.Nodup) (hi : PI X tg iter wi) (ok : BlkOk X.N X.env.scope scope own) (hv : ∀ i ∈ vs1, i ∈ own.map (·.2))
    (hg : ∀ (s : Shared) (H : Hp) (C : Addr) (cl : List (Str × Addr)) (fp : List Addr), PG (X.blk s H scope (compEnvC scope cl C X.env) fp) tg g) (ht : ∀ (s : Shared) (H : Hp) (C : Addr) (cl : List (Str × Addr)) (fp : List Addr), PTs (X.blk s H scope (compEnvC scope cl C X.env) fp) ifs tt)
    (hk : ∀ (s : Shared) (H : Hp) (C : Addr) (cl : List (Str × Addr)) (fp : List Addr), PE (X.blk s H scope (compEnvC scope cl C X.env) fp) kx tk)
    (he : ∀ (s : Shared) (H : Hp) (C : Addr) (cl : List (Str × Addr)) (fp : List Addr), PE (X.blk s H scope (compEnvC scope cl C X.env) fp) vx tv) (hs : ∀ x, foldedSetIterable iter X.env x = pure x)
    (hi1 : ∀ (s : Shared) (H : Hp) (C : Addr) (cl : List (Str × Addr)) (fp : List Addr), PI (X.blk s H scope (compEnvC scope cl C X.env) fp) tg1 iter1 wi1)
    (hg1 : ∀ (s : Shared) (H : Hp) (C : Addr) (cl : List (Str × Addr)) (fp : List Addr), PG (X.blk s H scope (compEnvC scope cl C X.env) fp) tg1 g1)
    (ht1 : ∀ (s : Shared) (H : Hp) (C : Addr) (cl : List (Str × Addr)) (fp : List Addr), PTs (X.blk s H scope (compEnvC scope cl C X.env) fp) ifs1 tt1)
    (hs1 : ∀ env x, foldedSetIterable iter1 env x = pure x) :
    PE X (.DictComp kx vx [⟨tg, iter, ifs, 0⟩, ⟨tg1, iter1, ifs1, 0⟩] scope pos) (tDc2 o0 wi g tt wi1 g1 tt1 tk tv (own.map (·.2)) vs1) := by
  refine ⟨fun pins s σ H Q I h => ?_⟩
  rw [arm_eval_DictComp]
  refine dc2_core h0 hu hc hN I hi ok hv hg ht hk he hs hi1 hg1 ht1 hs1 h fun D C s' m H' I' q hn f => ⟨m, hn, fun h'' sb => ?_⟩
  obtain ⟨f0, f1, f2, f3, f4, f5⟩ := f
  exact ⟨.ref D, H', I'.turned (t' := s'.toks) (fun b o hb e => (sb.2 b hb).trans e) f0 f1 f3 f4 f5, rfl, q⟩
end
end Ip

set_option Elab.async false
set_option linter.all false
set_option maxRecDepth 100000
set_option maxHeartbeats 8000000
namespace Ip
open PySem PySem.Spec PyProof.Rows L2
section
variable {L : Lw} {T : List Fn} {n : Nat} {cf : Orc} {E : XK} {X : Cx} {ρ : List Addr} {H : Hp} {ah : AH} {α β : Type}
theorem putV_ok {r' k' x' : Vl} {D : Addr} {y z : V} {Φ : Unit → AH → List Addr → Hp → Prop} (S : Sim L ρ H ah) (hr : Rep L ρ H r' (.ref D)) (hy : Rep L ρ H k' y) (hv : Rep L ρ H x' z) (P : Post L E ρ H (putV r' k' x' ah) Φ) :
    ∃ H9 ah', DPut H D y z H9 ∧ Step ρ H ρ H9 ∧ Sim L ρ H9 ah' ∧ Φ () ah' ρ H9 := by
  cases hr with
  | ref e =>
    obtain ⟨o, _, b1, P⟩ := Post.rd S e P
    cases b1 with
    | @dK ks vs _ q r =>
      have P := Post.bind P
      unfold dPut at P
      cases hk : keyOf k' with
      | none => simp only [hk] at P; exact False.elim P
      | some k =>
        simp only [hk] at P
        obtain ⟨h1, P⟩ := Post.guard P
        have P := P.ret S
        have hb : ∀ H', Step ρ H ρ H' → H' D = some (.dK (putK vs k z)) → ObR L ρ H' (.dK (putA ks k x')) D := fun H' st e2 => .dK e2 (KR.put k (hv.step S st) (r.step S st))
        have hl : vs.length < sizeLine := by rw [← r.length, ← line_eq]; exact Nat.le_of_ble_eq_true h1
        exact ⟨_, _, .inl ⟨vs, k, q, key_of_v hy hk, hl, rfl⟩, step_set e, S.set e hb, P.wr' S e hb⟩
    | @dT ks vs _ q r =>
      have P := Post.bind P
      cases hy with
      | @tup zs ws a e2 r2 =>
        unfold dPut at P
        cases hk : keysOf zs with
        | none => simp only [hk] at P; exact False.elim P
        | some k =>
          simp only [hk] at P
          obtain ⟨h1, P⟩ := Post.guard P
          have P := P.ret S
          have hb : ∀ H', Step ρ H ρ H' → H' D = some (.dT (putK vs k z)) → ObR L ρ H' (.dT (putA ks k x')) D := fun H' st e2 => .dT e2 (KR.put k (hv.step S st) (r.step S st))
          have hl : vs.length < sizeLine := by rw [← r.length, ← line_eq]; exact Nat.le_of_ble_eq_true h1
          rw [keys_of_v r2 hk] at e2
          exact ⟨_, _, .inr ⟨vs, k, a, q, rfl, e2, hl, rfl⟩, step_set e, S.set e hb, P.wr' S e hb⟩
      | _ => exact False.elim P
    | _ => exact False.elim P
  | _ => exact False.elim P
theorem dc2_den {fi fi1 : Sg → M (List Vl × Gu)} {ft ft1 : Vl → Sg → M Sg} {ff ff1 : Sg → M Bool} {fk fv : Sg → M Vl} {tb : Bool} {vs vs1 : List Nat} {σ : L2.St} {H : Hp} {Q : VK}
    (h : dE L E (fun σ => (fi σ).bind fun p => (alloc (dict0 tb)).bind fun r => (lp p.2 (outB ft ff fi1 ft1 ff1 (fun σ2 => (fk σ2).bind fun y => (fv σ2).bind fun z => putV r y z) vs vs1 σ) p.1).bind fun _ => ret r) σ H Q) :
    tDc2 (dict0H tb) (dI L E fi) (dG L E0 vs ft) (dB L E0 ff) (dI L E0 fi1) (dG L E0 vs1 ft1) (dB L E0 ff1) (dE L E0 fk) (dE L E0 fv) vs vs1 σ H Q := by
  obtain ⟨ρ, ah, σ', S, R, P⟩ := h
  refine ⟨ρ, ah, σ', S, R, P.bind.imp fun p ah1 ρ1 H1 st1 S1 P1 J hJ D hD => ?_⟩
  have R1 := SR.step S st1 R
  -- the new list is numbered
  have SD : Sim L (ρ1 ++ [D]) (upd H1 D (dict0H tb)) (ah1 ++ [dict0 tb]) := S1.push hD fun _ _ _ e => by
    cases tb
    · exact .dK e .nil
    · exact .dT e .nil
  have stD : Step ρ1 H1 (ρ1 ++ [D]) (upd H1 D (dict0H tb)) := step_num hD
  have rD : Rep L (ρ1 ++ [D]) (upd H1 D (dict0H tb)) (.ref ah1.length) (.ref D) := Rep.last S1.len.symm
  have PD : Post L E (ρ1 ++ [D]) (upd H1 D (dict0H tb)) (((lp p.2 (outB ft ff fi1 ft1 ff1 (fun σ2 => (fk σ2).bind fun y => (fv σ2).bind fun z => putV (Vl.ref ah1.length) y z) vs vs1 σ') p.1).bind fun _ => ret (.ref ah1.length)) (ah1 ++ [dict0 tb])) (VQ L Q) :=
    Post.move (show Post L E ρ1 H1 (((lp p.2 (outB ft ff fi1 ft1 ff1 (fun σ2 => (fk σ2).bind fun y => (fv σ2).bind fun z => putV (Vl.ref ah1.length) y z) vs vs1 σ') p.1).bind fun _ => ret (.ref ah1.length)) (ah1 ++ [dict0 tb])) (VQ L Q) from P1) SD stD
  have PD := PD.bind
  refine ⟨fun i m H => m = p.1.length - i ∧ i ≤ p.1.length ∧ ∃ ρi ahi, Step (ρ1 ++ [D]) (upd H1 D (dict0H tb)) ρi H ∧ Sim L ρi H ahi ∧ EnvR L ρi H σ' σ ∧
    Post L E ρi H (lp p.2 (outB ft ff fi1 ft1 ff1 (fun σ2 => (fk σ2).bind fun y => (fv σ2).bind fun z => putV (Vl.ref ah1.length) y z) vs vs1 σ') (p.1.drop i) ahi) (fun _ ah2 ρ2 H2 => Post L E ρ2 H2 (Ip.ret (Vl.ref ah1.length) ah2) (VQ L Q)),
    ⟨p.1.length, by simp, Nat.zero_le _, ρ1 ++ [D], ah1 ++ [dict0 tb], Step.refl, SD, SR.step S1 stD R1, (by rw [List.drop_zero]; exact PD)⟩, ?_⟩
  rintro i m Hi ⟨rfl, hi, ρi, ahi, sti, Si, Ri, Pi⟩
  have st0 := stD.trans SD sti
  have rDi := rD.step SD sti
  by_cases hlt : i < p.1.length
  · right
    obtain ⟨hgo, hy⟩ := lp_turn hJ st0 Si hlt Pi
    refine ⟨hgo, fun H' => i + 1 ≤ p.1.length ∧ ∃ ρi ahi, Step (ρ1 ++ [D]) (upd H1 D (dict0H tb)) ρi H' ∧ Sim L ρi H' ahi ∧ EnvR L ρi H' σ' σ ∧
      Post L E ρi H' (lp p.2 (outB ft ff fi1 ft1 ff1 (fun σ2 => (fk σ2).bind fun y => (fv σ2).bind fun z => putV (Vl.ref ah1.length) y z) vs vs1 σ') (p.1.drop (i + 1)) ahi) (fun _ ah2 ρ2 H2 => Post L E ρ2 H2 (Ip.ret (Vl.ref ah1.length) ah2) (VQ L Q)),
      fun H' h' => ⟨p.1.length - (i + 1), by omega, rfl, h'⟩, fun v H2 hv => ?_⟩
    obtain ⟨st2, S2, rv, B⟩ := hy v H2 hv
    refine ⟨ρi, ahi, wipeA σ' vs, p.1[i], S2, EnvR.wipe (SR.step Si st2 Ri) vs, rv, B.bind.imp fun σ1 ah3 ρ3 H3 st3 S3 P3 σ3 R3 hw => ?_⟩
    refine ⟨by rw [hw, wipe_idem σ vs vs fun _ h => h], ρ3, ah3, σ1, S3, R3, P3.bind.imp fun k ah4 ρ4 H4 st4 S4 P4 => ?_⟩
    cases k with
    | false =>
      simp only [Bool.false_eq_true, if_false] at P4 ⊢
      obtain ⟨stB, Pn⟩ := P4.ret S4
      have stA := sti.trans Si (st2.trans S2 stB)
      exact ⟨hlt, ρ4, ah4, stA, S4, SR.step Si (st2.trans S2 stB) Ri, Pn⟩
    | true =>
      simp only [if_true] at P4 ⊢
      refine ⟨ρ4, ah4, σ1, S4, SR.step S3 st4 R3, P4.bind.imp fun p1 ah5 ρ5 H5 st5 S5 P5 J1 hJ1 => ?_⟩
      have R5 := SR.step S4 st5 (SR.step S3 st4 R3)
      refine ⟨fun j k H => k = p1.1.length - j ∧ j ≤ p1.1.length ∧ ∃ ρj ahj, Step ρ5 H5 ρj H ∧ Sim L ρj H ahj ∧ EnvR L ρj H σ1 σ3 ∧
        Post L E0 ρj H (lp p1.2 (inB ft1 ff1 (fun σ2 => (fk σ2).bind fun y => (fv σ2).bind fun z => putV (Vl.ref ah1.length) y z) vs1 σ1) (p1.1.drop j) ahj) (fun _ ah2 ρ2 H2' => Step ρi H2 ρ2 H2' ∧ Post L E ρ2 H2' (lp p.2 (outB ft ff fi1 ft1 ff1 (fun σ2 => (fk σ2).bind fun y => (fv σ2).bind fun z => putV (Vl.ref ah1.length) y z) vs vs1 σ') (p.1.drop (i + 1)) ah2) (fun _ ah2 ρ2 H2 => Post L E ρ2 H2 (Ip.ret (Vl.ref ah1.length) ah2) (VQ L Q))),
        ⟨p1.1.length, by simp, Nat.zero_le _, ρ5, ah5, Step.refl, S5, R5, (by rw [List.drop_zero]; exact P5)⟩, ?_⟩
      rintro j k Hj ⟨rfl, hj, ρj, ahj, stj, Sj, Rj, Pj⟩
      by_cases hltj : j < p1.1.length
      · right
        obtain ⟨hgo1, hy1⟩ := lp_turn hJ1 stj Sj hltj Pj
        refine ⟨hgo1, fun H' => j + 1 ≤ p1.1.length ∧ ∃ ρj ahj, Step ρ5 H5 ρj H' ∧ Sim L ρj H' ahj ∧ EnvR L ρj H' σ1 σ3 ∧
          Post L E0 ρj H' (lp p1.2 (inB ft1 ff1 (fun σ2 => (fk σ2).bind fun y => (fv σ2).bind fun z => putV (Vl.ref ah1.length) y z) vs1 σ1) (p1.1.drop (j + 1)) ahj) (fun _ ah2 ρ2 H2' => Step ρi H2 ρ2 H2' ∧ Post L E ρ2 H2' (lp p.2 (outB ft ff fi1 ft1 ff1 (fun σ2 => (fk σ2).bind fun y => (fv σ2).bind fun z => putV (Vl.ref ah1.length) y z) vs vs1 σ') (p.1.drop (i + 1)) ah2) (fun _ ah2 ρ2 H2 => Post L E ρ2 H2 (Ip.ret (Vl.ref ah1.length) ah2) (VQ L Q))),
          fun H' h' => ⟨p1.1.length - (j + 1), by omega, rfl, h'⟩, fun w H6 hw6 => ?_⟩
        obtain ⟨st6, S6, rw6, B1⟩ := hy1 w H6 hw6
        refine ⟨ρj, ahj, wipeA σ1 vs1, p1.1[j], S6, EnvR.wipe (SR.step Sj st6 Rj) vs1, rw6, B1.bind.imp fun σ7 ah7 ρ7 H7 st7 S7 P7 σ8 R8 hw8 => ?_⟩
        refine ⟨by rw [hw8, wipe_idem σ3 vs1 vs1 fun _ h => h], ρ7, ah7, σ7, S7, R8, P7.bind.imp fun k ah8 ρ8 H8 st8 S8 P8 => ?_⟩
        cases k with
        | false =>
          simp only [Bool.false_eq_true, if_false] at P8 ⊢
          obtain ⟨stB, Pn⟩ := P8.ret S8
          exact ⟨hltj, ρ8, ah8, stj.trans Sj (st6.trans S6 stB), S8, SR.step Sj (st6.trans S6 stB) Rj, Pn⟩
        | true =>
          simp only [if_true] at P8 ⊢
          refine ⟨ρ8, ah8, σ7, S8, SR.step S7 st8 R8, P8.bind.imp fun y ah9 ρ9 H9 st9 S9 P9 yv ry => ⟨ρ9, ah9, σ7, S9, SR.step S8 st9 (SR.step S7 st8 R8), P9.bind.imp fun z ahz ρz Hz stz Sz Pz zv rz => ?_⟩⟩
          have stT : Step ρj H6 ρz Hz := st7.trans S7 (st8.trans S8 (st9.trans S9 stz))
          have rDz : Rep L ρz Hz (.ref ah1.length) (.ref D) := ((((((rDi.step Si st2).step S2 st3).step S3 st4).step S4 st5).step S5 stj).step Sj st6).step S6 stT
          obtain ⟨H10, ah10, gp, st10, S10, stB, Pn⟩ := putV_ok Sz rDz (ry.step S9 stz) rz Pz
          exact ⟨H10, gp, hltj, ρz, ah10, stj.trans Sj (st6.trans S6 stB), S10, SR.step Sj (st6.trans S6 stB) Rj, Pn⟩
      · left
        obtain ⟨hs, stB, Pn⟩ := lp_end hJ1 stj Sj (Nat.le_of_not_lt hltj) Pj
        exact ⟨hs, hlt, ρj, ahj, sti.trans Si (st2.trans S2 stB), Sj, SR.step Si (st2.trans S2 stB) Ri, Pn⟩
  · left
    obtain ⟨hs, q⟩ := lp_end hJ st0 Si (Nat.le_of_not_lt hlt) Pi
    exact ⟨hs, Post.ret q Si _ rDi⟩
end
end Ip

set_option Elab.async false
set_option linter.all false
set_option maxRecDepth 100000
set_option maxHeartbeats 4000000
namespace Ip
open PySem PySem.Spec PyProof.Rows L2
section
variable {L : Lw} {T : List Fn} {n : Nat} {cf : Orc} {E : XK} {X : Cx} {ρ : List Addr} {H H' : Hp} {ah : AH} {α β : Type}
theorem step_ext (kp : ∀ b u, H b = some u → H' b = some u) : Step ρ H ρ H' := ⟨⟨[], by simp, by simp⟩, fun a u e _ _ => kp a u e, fun a u e _ _ => .inl (kp a _ e), fun a u e _ => ⟨.own u, kp a _ e, fun _ z => (nomatch z)⟩⟩
theorem Sim.extH (S : Sim L ρ H ah) (kp : ∀ b u, H b = some u → H' b = some u) : Sim L ρ H' ah :=
  ⟨S.len, S.nd, (fun i a ob e1 e2 => (S.ob i a ob e1 e2).step S (step_ext kp) fun ho e => kp _ _ e), S.tb.ext kp⟩
/-- the pairs of a dict, laid -/
theorem items_laid2 {pins : List (Addr × Obj)} {σ : L2.St} {s : Shared} {h' : Heap} {tk : Nat} {kvs : List (Key × V)} {vs : List (Key × Value)} {as : List Addr} (I : Inv X pins σ H s) (kv : KV kvs vs)
    (hk : ∀ b o, s.heap.get? b = some o → h'.get? b = some o) (hl : as.length = vs.length) (hG : PySem.W.KdxG (mixKind X.prog X.w) vs s.heap.objs.size h' as) :
    ∃ H' : Hp, (∀ b o, H b = some o → H' b = some o) ∧ Paired (fun (t : Addr) (q : Key × V) => H' t = some (.tup [kV q.1, q.2])) as kvs ∧ Inv X pins σ H' { s with heap := h', toks := tk } := by
  have lk : kvs.length = vs.length := Paired.length kv
  have nd : as.Nodup := List.Pairwise.imp (fun {a b} (h : a < b) => Nat.ne_of_lt h) hG.rise
  have new : ∀ t ∈ as, H t = none := fun t ht => I.hok.fresh (Nat.le_of_lt (hG.above t ht))
  have atP := LiI.putT_at as kvs H (by omega) nd
  have off : ∀ b, b ∉ as → LiI.putT H as kvs b = H b := fun b h1 => LiI.putT_off as kvs _ h1
  have low : ∀ b o, s.heap.get? b = some o → b ∉ as := fun b o e => fun z => absurd (Heap.lt_size e) (Nat.not_lt.mpr (Nat.le_of_lt (hG.above b z)))
  have kp : ∀ b u, H b = some u → (LiI.putT H as kvs) b = some u := fun b u e => by
    rw [off b (fun z => by rw [new b z] at e; cases e)]
    exact e
  refine ⟨LiI.putT H as kvs, kp, atP, ?_⟩
  refine I.call' (ch := []) rfl ⟨fun b o q _ _ _ => hk b o q, fun b o q _ _ _ => ⟨o.slots, hk b o q⟩, fun b o q n _ => ?_, fun b o q _ => ⟨o, hk b o q⟩, fun b xs q => kp b _ q, fun b o u q => kp b _ q, fun b ps q => ⟨#[], by rw [kp b _ q]; simp⟩⟩ (fun b u q => ?_) I.bare fun b z => by simp at z
  · rw [off b (low b o q)]
    exact n
  · by_cases hb : b ∈ as
    · obtain ⟨j, pk, e1, e2, e3⟩ := LiI.paired_ix atP hb
      rw [e3] at q
      cases q
      obtain ⟨key, k, x, f1, f2, f3⟩ := hG.pairs j b e1
      obtain ⟨qv, g1, g2, g3⟩ := LiI.paired_get kv e2
      rw [f1] at g1
      cases g1
      have rk : RelV (kV pk.1) key := by
        rw [g2]
        exact relV_key (show keyIs k key = true from f2)
      exact ⟨by show 2 ≤ sizeLine; decide, [key, x], .cons rk (.cons g3 .nil), ⟨_, f3, rfl, _, rfl⟩⟩
    · rw [off b hb] at q
      exact (I.hok b u q).stay (fun d v _ y => hk d v y) (fun d y => kp d _ y) fun d xs y => kp d _ y
theorem items_reps {ks : List (Key × Vl)} {kvs : List (Key × V)} {as : List Addr} (r : KR L ρ H ks kvs) (hp : Paired (fun (t : Addr) (q : Key × V) => H t = some (.tup [kV q.1, q.2])) as kvs) : Reps L ρ H (itemsA ks) (as.map V.ref) := by
  unfold KR at r
  induction r generalizing as with
  | nil => cases hp; exact .nil
  | @cons a b _ _ h t ih =>
    cases hp with
    | cons h1 t1 =>
      refine .cons (.tup h1 (.cons ?_ (.cons h.2 .nil))) (ih t1)
      rw [h.1]
      cases b.1 with
      | inl i => exact .int i
      | inr x => exact .str x
/-- sorted(e.items()) -/
theorem pe_srtI {fe : Sg → M Vl} {e : Expr} {p apos cpos pos : Pos} (G : Gd L T n cf E X) (he : PE X e (dE L E fe)) (hg : Gl X "sorted") (hm : X.mg "sorted" = none) (hbase : attributeBase e "items" X.env (eval e X.env) = eval e X.env) (hline : (apos.endLine == cpos.line) = true) :
    PE X (.Call (.Name "sorted" p) [.Call (.Attribute e "items" apos) [] [] cpos] [] pos) (dE L E fun σ => (fe σ).bind srtI) := by
  refine ⟨fun pins s σ H Q I ⟨ρ, ah, σ', S, R, P⟩ => ?_⟩
  refine wpAny_Call_Name_kw (ld_blt I hg hm PyProof.Rows.boot_sorted ?_)
  refine PyProof.Rows.callWith_builtin1 ?_ rfl rfl
  show wpAny _ _ (spliced ((false, eval (.Call (.Attribute e "items" apos) [] [] cpos) X.env) :: backTo pos (starEach [] X.env))) _ _ s
  refine Calls.spliced_cons ?_
  refine wpAny_Call_method (T := "dict") (id := "dict.items") hbase rfl hline F.plainAttrs_dict F.slot_dict_items F.type_dict_items (thn (he.run pins s σ H (fun xv H1 => ∃ ρ1 ah1 x', Step ρ H ρ1 H1 ∧ Sim L ρ1 H1 ah1 ∧ Rep L ρ1 H1 x' xv ∧ Post L E ρ1 H1 (srtI x' ah1) (VQ L Q)) I ⟨ρ, ah, σ', S, R, (Post.bind P).imp fun x' ah1 ρ1 H1 st S1 P1 xv rx => ⟨ρ1, ah1, x', st, S1, rx, P1⟩⟩) fun u s1 ⟨x, H1, I1, rx, ρ1, ah1, x', st, S1, hx, P1⟩ => ?_)
  cases hx with
  | @ref i d e1 =>
    obtain ⟨o, _, b1, P1⟩ := Post.rd S1 e1 P1
    cases b1 with
    | @dK ks kvs _ hd kr =>
      obtain rfl : u = Value.ref d := rx
      obtain ⟨hz, hs0, vs, kv, hdo⟩ := I1.hok d _ hd
      obtain ⟨ep, hat⟩ := hdo.dictAt
      have lk : kvs.length = vs.length := Paired.length kv
      have I2 : Inv X pins σ H1 { s1 with heap := s1.heap.push { cls := .type "dict_items", data := .fields #[.ref d] } } := I1.kept (t' := s1.toks) fun b ob q => Heap.get?_push_of_some _ q
      refine ⟨hdo.typeIs, hdo.mapOf.noDict, ?_⟩
      show wpAny _ _ (callWith cpos (.builtin "dict.items") [.ref d] [] []) _ X.xe s1
      refine method_meetsIn F.slot_dict_items F.entry_dict_items rfl (PySem.evalArgs_none ⟨rfl, hdo.typeIs, F.args_dict_items_1 _, _, meets_dict_items (mixKind X.prog X.w) d hs0, ⟨vs, hdo⟩, ?_⟩)
      refine Calls.spliced_nil ?_
      refine sorted_from (a := s1.heap.objs.size) G P1 (I1.ok.hd G.calm) fun A R E' hA h => ?_
      refine PySem.W.kdx_collect (knd := mixKind X.prog X.w) (kvs := vs) (ep := ep) hA ⟨_, Heap.get?_push_size _ rfl, rfl, rfl⟩ (hat.push _) (by omega) fun h' tk as hk hl hG => ?_
      obtain ⟨H2, kp, hp, I3⟩ := items_laid2 (tk := tk) I2 kv hk hl hG
      exact h _ h' tk (as.map V.ref) H2 I3 (step_ext kp) (S1.extH kp) (items_reps (Paired.mapP kr fun _ _ q => ⟨q.1, q.2.step S1 (step_ext kp)⟩) hp) (LiI.vals_refs as)
    | _ => exact False.elim P1
  | _ => exact False.elim P1
end
end Ip

set_option Elab.async false
set_option linter.all false
set_option maxRecDepth 100000
set_option maxHeartbeats 4000000
namespace Ip
open PySem PySem.Spec PyProof.Rows L2

/-! ### a call that sees its arguments alone -/
section
variable {L : Lw} {ρ ρ' : List Addr} {H H' : Hp} {ah ah' : AH} {E : XK}
mutual
theorem Rep.anyR {ρ2 : List Addr} : ∀ {x : Vl} {v : V}, rfree x = true → Rep L ρ H x v → Rep L ρ2 H x v
  | _, _, _, .non => .non
  | _, _, _, .bl b => .bl b
  | _, _, _, .int i => .int i
  | _, _, _, .str x => .str x
  | _, _, h, .tup e r => .tup e (Reps.anyR (by simpa [rfree] using h) r)
  | _, _, h, .kt e r => .kt e (Reps.anyR (by simpa [rfree] using h) r)
  | _, _, h, .ref e => by simp [rfree] at h
  | _, _, _, .fn f => .fn f
theorem Reps.anyR {ρ2 : List Addr} : ∀ {xs : List Vl} {vs : List V}, rfrees xs = true → Reps L ρ H xs vs → Reps L ρ2 H xs vs
  | _, _, _, .nil => .nil
  | _, _, h, .cons a b => by
    rw [rfrees, Bool.and_eq_true] at h
    exact .cons (Rep.anyR h.1 a) (Reps.anyR h.2 b)
end
theorem KR.anyR {κ : Type} {ρ2 : List Addr} : ∀ {xs : List (κ × Vl)} {vs : List (κ × V)}, rfrees (xs.map (·.2)) = true → KR L ρ H xs vs → KR L ρ2 H xs vs
  | _, _, _, .nil => .nil
  | _, _, h, .cons a b => by
    rw [List.map_cons, rfrees, Bool.and_eq_true] at h
    exact .cons ⟨a.1, Rep.anyR h.1 a.2⟩ (KR.anyR h.2 b)
theorem ObR.anyR {ρ2 : List Addr} {o : Ob} {a : Addr} (h : obFree o = true) (r : ObR L ρ H o a) : ObR L ρ2 H o a := by
  cases r with
  | lst e r => exact .lst e (Reps.anyR h r)
  | ro e r => exact .ro e (Reps.anyR h r)
  | dK e r => exact .dK e (KR.anyR h r)
  | dT e r => exact .dT e (KR.anyR h r)
  | sl _ _ _ => cases h
  | rng e => exact .rng e
theorem pairs_eq {κ : Type} : ∀ {xs ys : List (κ × Vl)}, xs.map (·.1) = ys.map (·.1) → xs.map (·.2) = ys.map (·.2) → xs = ys
  | [], [], _, _ => rfl
  | [], _ :: _, h, _ => by simp at h
  | _ :: _, [], h, _ => by simp at h
  | (a, b) :: xs, (c, d) :: ys, h1, h2 => by
    simp only [List.map_cons, List.cons.injEq] at h1 h2
    rw [h1.1, h2.1, pairs_eq h1.2 h2.2]
theorem obEq_ok {a b : Ob} (h : obEq a b = true) : a = b := by
  unfold obEq at h
  split at h
  · rw [eqbs_ok _ _ h]
  · rw [eqbs_ok _ _ h]
  · rw [Bool.and_eq_true, decide_eq_true_eq] at h
    rw [pairs_eq h.1 (eqbs_ok _ _ h.2)]
  · rw [Bool.and_eq_true, decide_eq_true_eq] at h
    rw [pairs_eq h.1 (eqbs_ok _ _ h.2)]
  · rw [Bool.and_eq_true, decide_eq_true_eq, decide_eq_true_eq] at h
    rw [h.1, h.2]
  · cases h
theorem sameP_ok : ∀ {os h : AH}, sameP os h = true → ∃ r, h = os ++ r
  | [], h, _ => ⟨h, rfl⟩
  | o :: os, h, e => by
    unfold sameP at e
    cases h with
    | nil => cases e
    | cons o' h =>
      simp only [Bool.and_eq_true] at e
      obtain ⟨r, q⟩ := sameP_ok e.2
      exact ⟨r, by rw [obEq_ok e.1, q]; rfl⟩
theorem refsOf_nd : ∀ vs : List Vl, (refsOf vs).Nodup
  | [] => by simp [refsOf]
  | v :: vs => by
    unfold refsOf
    split
    · split
      · exact refsOf_nd vs
      · rename_i h
        simp only [decide_eq_true_eq] at h
        exact List.nodup_cons.mpr ⟨h, refsOf_nd vs⟩
    · exact refsOf_nd vs
theorem placeOf_ok {i : Nat} : ∀ {js : List Nat} {k : Nat}, placeOf i js = some k → js[k]? = some i
  | [], _, h => by cases h
  | j :: js, k, h => by
    unfold placeOf at h
    split at h
    · rename_i e
      cases h
      rw [Nat.eq_of_beq_eq_true e]; rfl
    · obtain ⟨m, h1, h2⟩ := Option.map_eq_some_iff.mp h
      subst h2
      rw [List.getElem?_cons_succ]
      exact placeOf_ok h1
theorem fetch_ok : ∀ {is : List Nat} {sub : AH}, fetch ah is = some sub → sub.length = is.length ∧ ∀ (k i : Nat), is[k]? = some i → ∃ o, ah[i]? = some o ∧ sub[k]? = some o ∧ obFree o = true
  | [], sub, h => by cases h; exact ⟨rfl, fun k i e => by simp at e⟩
  | i :: is, sub, h => by
    unfold fetch at h
    split at h
    · rename_i o e
      split at h
      · rename_i hf
        obtain ⟨os, h1, h2⟩ := Option.map_eq_some_iff.mp h
        subst h2
        obtain ⟨l, r⟩ := fetch_ok h1
        refine ⟨by simp [l], fun k j ek => ?_⟩
        cases k with
        | zero => simp at ek; subst ek; exact ⟨o, e, rfl, hf⟩
        | succ k =>
          obtain ⟨o', a, b, c⟩ := r k j (by simpa using ek)
          exact ⟨o', a, by simpa using b, c⟩
      · cases h
    · cases h
/-- the addresses of some numbers -/
def adrs (ρ : List Addr) (is : List Nat) : List Addr := is.map fun i => ρ.getD i 0
theorem adrs_get {is : List Nat} (hb : ∀ i ∈ is, i < ρ.length) {k : Nat} {a : Addr} (h : (adrs ρ is)[k]? = some a) : ∃ i, is[k]? = some i ∧ ρ[i]? = some a := by
  unfold adrs at h
  rw [List.getElem?_map] at h
  obtain ⟨i, h1, h2⟩ := Option.map_eq_some_iff.mp h
  have hi := hb i (List.mem_of_getElem? h1)
  refine ⟨i, h1, ?_⟩
  rw [List.getElem?_eq_getElem hi, ← h2]
  simp [List.getD, List.getElem?_eq_getElem hi]
theorem adrs_of {is : List Nat} {k i : Nat} {a : Addr} (h1 : is[k]? = some i) (h2 : ρ[i]? = some a) : (adrs ρ is)[k]? = some a := by
  unfold adrs
  rw [List.getElem?_map, h1]
  simp [List.getD, h2]
theorem adrs_nd (nd : ρ.Nodup) : ∀ {is : List Nat}, (∀ i ∈ is, i < ρ.length) → is.Nodup → (adrs ρ is).Nodup
  | [], _, _ => by simp [adrs]
  | i :: is, hb, h => by
    rw [List.nodup_cons] at h
    refine List.nodup_cons.mpr ⟨fun hm => ?_, adrs_nd nd (fun j hj => hb j (List.mem_cons_of_mem _ hj)) h.2⟩
    obtain ⟨j, hj, e⟩ := List.mem_map.mp hm
    have hi := hb i List.mem_cons_self
    have hj2 := hb j (List.mem_cons_of_mem _ hj)
    have e : ρ.getD j 0 = ρ.getD i 0 := e
    have : ρ[j] = ρ[i] := by simpa [List.getD, List.getElem?_eq_getElem hi, List.getElem?_eq_getElem hj2] using e
    rw [List.getElem_inj nd] at this
    subst this
    exact h.1 hj
theorem renm_ok {acc : List Nat} : ∀ {xs ws : List Vl} {vs : List V}, renm acc xs = some ws → Reps L ρ H xs vs → Reps L (adrs ρ acc) H ws vs
  | [], ws, vs, h, r => by cases r; cases h; exact .nil
  | x :: xs, ws, _, h, .cons (vs := vs) a r => by
    unfold renm at h
    split at h
    · rename_i i
      split at h
      · rename_i k hk
        obtain ⟨ws', h1, h2⟩ := Option.map_eq_some_iff.mp h
        subst h2
        cases a with
        | ref e => exact .cons (.ref (adrs_of (placeOf_ok hk) e)) (renm_ok h1 r)
      · cases h
    · split at h
      · rename_i hf
        obtain ⟨ws', h1, h2⟩ := Option.map_eq_some_iff.mp h
        subst h2
        exact .cons (Rep.anyR hf a) (renm_ok h1 r)
      · cases h
theorem frame_ok {cf : Orc} {f : Nat} {xs : List Vl} {vs : List V} {Q : VK} (S : Sim L ρ H ah) (r : Reps L ρ H xs vs) (P : Post L E ρ H (frame (cf f) xs ah) (VQ L Q)) : spOf L cf f vs H Q E := by
  unfold frame at P
  split at P
  · rename_i sub ws hsub hws
    obtain ⟨hl, hg⟩ := fetch_ok hsub
    have hb : ∀ i ∈ refsOf xs, i < ρ.length := fun i hi => by
      obtain ⟨k, hk, e⟩ := List.mem_iff_getElem.mp hi
      obtain ⟨o, e1, _⟩ := hg k i (by rw [List.getElem?_eq_getElem hk, e])
      rw [S.len]
      exact (List.getElem?_eq_some_iff.mp e1).1
    have S0 : Sim L (adrs ρ (refsOf xs)) H sub := by
      refine ⟨by rw [hl]; simp [adrs], adrs_nd S.nd hb (refsOf_nd xs), fun k a o e1 e2 => ?_, S.tb⟩
      obtain ⟨i, h1, h2⟩ := adrs_get hb e1
      obtain ⟨o', q1, q2, q3⟩ := hg k i h1
      rw [e2] at q2
      cases q2
      exact ObR.anyR q3 (S.ob i a o h2 q1)
    have hsub : ∀ a, a ∈ adrs ρ (refsOf xs) → a ∈ ρ := fun a ha => by
      obtain ⟨k, hk, e⟩ := List.mem_iff_getElem.mp ha
      obtain ⟨i, h1, h2⟩ := adrs_get hb (k := k) (a := a) (by rw [List.getElem?_eq_getElem hk, e])
      exact List.mem_of_getElem? h2
    refine ⟨_, sub, ws, S0, renm_ok hws r, ?_⟩
    -- what is behind the call, seen by the caller
    have live : ∀ {a : Addr}, a ∈ ρ → ∃ o, H a = some o ∧ ntb o ∧ (∀ o', o = o' → ¬ notOb o') := fun {a} ha => by
      obtain ⟨_, _, _, _, b⟩ := S.at ha
      obtain ⟨ho, e, n⟩ := b.at
      exact ⟨ho, e, ntb_of n, fun o' q => by rw [← q]; exact n⟩
    have out : ∀ {ρ' : List Addr} {H' : Hp} {h' : AH}, Step (adrs ρ (refsOf xs)) H ρ' H' → Sim L ρ' H' h' → sameP sub h' = true → Step ρ H ρ H' ∧ Sim L ρ H' ah ∧ ∀ (j : Nat) (a : Addr), sub.length ≤ j → ρ'[j]? = some a → a ∉ ρ ∧ ∀ o, H a = some o → ntb o → False := by
      intro ρ' H' h' st S' hs
      obtain ⟨δ, eδ, nδ⟩ := st.pre
      obtain ⟨rest, er⟩ := sameP_ok hs
      have fresh : ∀ {a : Addr}, a ∈ δ → a ∉ ρ := fun {a} ha hm => by
        obtain ⟨o, e, z, _⟩ := live hm
        exact nδ a ha o e z
      have st1 : Step ρ H ρ H' := by
        refine ⟨⟨[], by simp, by simp⟩, fun a o e n z => st.keep a o e (fun q => n (hsub a q)) z, fun a y e n lv => ?_, fun a y e n => st.owd a y e fun q => n (hsub a q)⟩
        rcases st.own a y e (fun q => n (hsub a q)) lv with q | ⟨q1, q2⟩
        · exact .inl q
        · rw [eδ] at q1
          rcases List.mem_append.mp q1 with q1 | q1
          · exact .inr ⟨hsub y q1, q2⟩
          · obtain ⟨o, eo, zo⟩ := lv
            exact (nδ y q1 o eo zo).elim
      have ln0 : (adrs ρ (refsOf xs)).length = sub.length := S0.len
      refine ⟨st1, ⟨S.len, S.nd, fun i a o e1 e2 => ?_, S'.tb⟩, fun j a hj e => ?_⟩
      · by_cases ha : a ∈ adrs ρ (refsOf xs)
        · obtain ⟨k, hk, e⟩ := List.mem_iff_getElem.mp ha
          have ek : (adrs ρ (refsOf xs))[k]? = some a := by rw [List.getElem?_eq_getElem hk, e]
          obtain ⟨i', h1, h2⟩ := adrs_get hb ek
          have hii : i' = i := by
            obtain ⟨b1, c1⟩ := List.getElem?_eq_some_iff.mp h2
            obtain ⟨b2, c2⟩ := List.getElem?_eq_some_iff.mp e1
            exact (List.getElem_inj S.nd).mp (c1.trans c2.symm)
          subst hii
          obtain ⟨o', q1, q2, q3⟩ := hg k i' h1
          rw [e2] at q1
          cases q1
          have hk2 : k < sub.length := by rw [← ln0]; exact hk
          refine ObR.anyR q3 (S'.ob k a o (by rw [eδ, List.getElem?_append_left hk]; exact ek) (by rw [er, List.getElem?_append_left hk2]; exact q2))
        · exact (S.ob i a o e1 e2).step S st1 fun ho e => st.keep a ho e ha (by
            obtain ⟨o', e', _, n'⟩ := live (List.mem_of_getElem? e1)
            rw [e] at e'
            exact nt_of (n' ho (Option.some.inj e').symm))
      · have : a ∈ δ := by
          rw [eδ, List.getElem?_append_right (by rw [ln0]; exact hj)] at e
          exact List.mem_of_getElem? e
        exact ⟨fresh this, nδ a this⟩
    cases q : cf f ws sub with
    | no => rw [q] at P; exact False.elim P
    | ex c p h' =>
      simp only [q] at P
      split at P
      · rename_i hc
        rw [Bool.and_eq_true] at hc
        intro ρ' H' cls d st S' x
        obtain ⟨st1, S1, _⟩ := out st S' hc.1
        refine P ρ H' cls d st1 S1 ⟨x.1, ?_⟩
        have x2 := x.2
        match p, hc.2, x2 with
        | [], _, x2 => exact x2
        | [y], hp, x2 =>
          obtain ⟨a, v, e1, e2, rv⟩ := x2
          exact ⟨a, v, e1, e2, Rep.anyR (by simpa [rfrees] using hp) rv⟩
        | _ :: _ :: _, _, x2 => exact False.elim x2
      · exact False.elim P
    | ok v h' =>
      simp only [q] at P
      split at P
      · rename_i hc
        intro ρ' H' st S' w rw'
        obtain ⟨st1, S1, hn⟩ := out st S' hc
        unfold back at P
        split at P
        · rename_i hf
          exact P ρ H' st1 S1 w (Rep.anyR hf rw')
        · split at P
          · rename_i j _
            split at P
            · rename_i zs hz
              split at P
              · rename_i hc2
                rw [Bool.and_eq_true] at hc2
                have hj := Nat.le_of_ble_eq_true hc2.1
                cases rw' with
                | @ref _ a e =>
                  obtain ⟨na, nz⟩ := hn j a hj e
                  have S2 := S1.num na (ObR.anyR (ρ2 := ρ) (o := .lst zs) hc2.2 (S'.ob j a _ e hz))
                  refine P (ρ ++ [a]) H' ⟨⟨[a], rfl, fun b hb o eo z => ?_⟩, st1.keep, fun b y e n lv => ?_, st1.owd⟩ S2 (.ref a) (Rep.last S.len.symm)
                  · rw [List.mem_singleton.mp hb] at eo
                    exact nz o eo z
                  · rcases st1.own b y e n lv with q | ⟨q1, q2⟩
                    · exact .inl q
                    · exact .inr ⟨List.mem_append_left _ q1, q2⟩
              · exact False.elim P
            · exact False.elim P
          · exact False.elim P
      · exact False.elim P
  · exact False.elim P
theorem wback_ok : ∀ {is : List Nat} {h h' h2 : AH}, is.Nodup → (∀ i ∈ is, i < h.length) → wback h is h' = some h2 → h2.length = h.length ∧ (∀ i, i ∉ is → h2[i]? = h[i]?) ∧ ∀ (k i : Nat), is[k]? = some i → ∃ o, h'[k]? = some o ∧ h2[i]? = some o ∧ obFree o = true
  | [], h, h', h2, _, _, e => by unfold wback at e; cases e; exact ⟨rfl, fun _ _ => rfl, fun k i e => by simp at e⟩
  | j :: is, h, h', h2, nd, hb, e => by
    unfold wback at e
    cases h' with
    | nil => cases e
    | cons o os =>
      simp only at e
      split at e
      · rename_i hf
        rw [List.nodup_cons] at nd
        obtain ⟨a, b, c⟩ := wback_ok nd.2 (fun i hi => by rw [List.length_set]; exact hb i (.tail _ hi)) e
        have hj := hb j (.head _)
        refine ⟨by rw [a, List.length_set], fun i hi => ?_, fun k i hk => ?_⟩
        · rw [List.mem_cons, not_or] at hi
          rw [b i hi.2, List.getElem?_set_ne (Ne.symm hi.1)]
        · cases k with
          | zero =>
            simp only [List.getElem?_cons_zero, Option.some.injEq] at hk
            subst hk
            exact ⟨o, rfl, by rw [b j nd.1, List.getElem?_set_self hj], hf⟩
          | succ k =>
            obtain ⟨o', q1, q2, q3⟩ := c k i (by simpa using hk)
            exact ⟨o', by simpa using q1, q2, q3⟩
      · cases e
theorem frameW_ok {cf : Orc} {f : Nat} {xs : List Vl} {vs : List V} {Q : VK} (S : Sim L ρ H ah) (r : Reps L ρ H xs vs) (P : Post L E ρ H (frameW (cf f) xs ah) (VQ L Q)) : spOf L cf f vs H Q E := by
  unfold frameW at P
  split at P
  · rename_i sub ws hsub hws
    obtain ⟨hl, hg⟩ := fetch_ok hsub
    have hb : ∀ i ∈ refsOf xs, i < ah.length := fun i hi => by
      obtain ⟨k, hk, e⟩ := List.mem_iff_getElem.mp hi
      obtain ⟨o, e1, _⟩ := hg k i (by rw [List.getElem?_eq_getElem hk, e])
      exact (List.getElem?_eq_some_iff.mp e1).1
    have hbr : ∀ i ∈ refsOf xs, i < ρ.length := fun i hi => by rw [S.len]; exact hb i hi
    have S0 : Sim L (adrs ρ (refsOf xs)) H sub := by
      refine ⟨by rw [hl]; simp [adrs], adrs_nd S.nd hbr (refsOf_nd xs), fun k a o e1 e2 => ?_, S.tb⟩
      obtain ⟨i, h1, h2⟩ := adrs_get hbr e1
      obtain ⟨o', q1, q2, q3⟩ := hg k i h1
      cases q2.symm.trans e2
      exact ObR.anyR q3 (S.ob i a o h2 q1)
    have hsub : ∀ a, a ∈ adrs ρ (refsOf xs) → a ∈ ρ := fun a ha => by
      obtain ⟨k, hk, e⟩ := List.mem_iff_getElem.mp ha
      obtain ⟨i, h1, h2⟩ := adrs_get hbr (k := k) (a := a) (by rw [List.getElem?_eq_getElem hk, e])
      exact List.mem_of_getElem? h2
    refine ⟨_, sub, ws, S0, renm_ok hws r, ?_⟩
    have live : ∀ {a : Addr}, a ∈ ρ → ∃ o, H a = some o ∧ ntb o ∧ nt o := fun {a} ha => by
      obtain ⟨_, _, _, _, b⟩ := S.at ha
      obtain ⟨ho, e, n⟩ := b.at
      exact ⟨ho, e, ntb_of n, nt_of n⟩
    cases q : cf f ws sub with
    | no => rw [q] at P; exact False.elim P
    | ex c p h' => rw [q] at P; exact False.elim P
    | ok v h' =>
      simp only [q] at P
      split at P
      · rename_i h2 hwb
        obtain ⟨w1, w2, w3⟩ := wback_ok (refsOf_nd xs) hb hwb
        intro ρ' H' st S' w rw'
        obtain ⟨δ, eδ, nδ⟩ := st.pre
        have fresh : ∀ {a : Addr}, a ∈ δ → a ∉ ρ := fun {a} ha hm => by
          obtain ⟨o, e, z, _⟩ := live hm
          exact nδ a ha o e z
        have st1 : Step ρ H ρ H' := by
          refine ⟨⟨[], by simp, by simp⟩, fun a o e n z => st.keep a o e (fun q => n (hsub a q)) z, fun a y e n lv => ?_, fun a y e n => st.owd a y e fun q => n (hsub a q)⟩
          rcases st.own a y e (fun q => n (hsub a q)) lv with q | ⟨q1, q2⟩
          · exact .inl q
          · rw [eδ] at q1
            rcases List.mem_append.mp q1 with q1 | q1
            · exact .inr ⟨hsub y q1, q2⟩
            · obtain ⟨o, eo, zo⟩ := lv
              exact (nδ y q1 o eo zo).elim
        have ln0 : (adrs ρ (refsOf xs)).length = sub.length := S0.len
        have S1 : Sim L ρ H' h2 := by
          refine ⟨by rw [w1]; exact S.len, S.nd, fun i a o e1 e2 => ?_, S'.tb⟩
          by_cases hi : i ∈ refsOf xs
          · obtain ⟨k, hk, e⟩ := List.mem_iff_getElem.mp hi
            have hk1 : (refsOf xs)[k]? = some i := by rw [List.getElem?_eq_getElem hk, e]
            obtain ⟨o', q1, q2, q3⟩ := w3 k i hk1
            rw [e2] at q2
            cases q2
            have ea := adrs_of (ρ := ρ) hk1 e1
            exact ObR.anyR q3 (S'.ob k a o (by rw [eδ, List.getElem?_append_left (List.getElem?_eq_some_iff.mp ea).1]; exact ea) q1)
          · rw [w2 i hi] at e2
            have ha : a ∉ adrs ρ (refsOf xs) := fun hm => by
              obtain ⟨k, hk, e⟩ := List.mem_iff_getElem.mp hm
              obtain ⟨i', h1, h2⟩ := adrs_get hbr (k := k) (a := a) (by rw [List.getElem?_eq_getElem hk, e])
              obtain ⟨b1, c1⟩ := List.getElem?_eq_some_iff.mp h2
              obtain ⟨b2, c2⟩ := List.getElem?_eq_some_iff.mp e1
              have : i' = i := (List.getElem_inj S.nd).mp (c1.trans c2.symm)
              subst this
              exact hi (List.mem_of_getElem? h1)
            exact (S.ob i a o e1 e2).step S st1 fun ho e => st.keep a ho e ha (by
              obtain ⟨o', e', _, n'⟩ := live (List.mem_of_getElem? e1)
              rw [e] at e'
              rw [Option.some.inj e']
              exact n')
        unfold back at P
        split at P
        · rename_i hf
          exact P ρ H' st1 S1 w (Rep.anyR hf rw')
        · split at P
          · rename_i j _
            split at P
            · rename_i zs hz
              split at P
              · rename_i hc2
                rw [Bool.and_eq_true] at hc2
                have hj := Nat.le_of_ble_eq_true hc2.1
                cases rw' with
                | @ref _ a e =>
                  have hd : a ∈ δ := by
                    rw [eδ, List.getElem?_append_right (by rw [ln0]; exact hj)] at e
                    exact List.mem_of_getElem? e
                  have S2 := S1.num (fresh hd) (ObR.anyR (ρ2 := ρ) (o := .lst zs) hc2.2 (S'.ob j a _ (by rw [eδ, List.getElem?_append_right (by rw [ln0]; exact hj)]; rw [eδ, List.getElem?_append_right (by rw [ln0]; exact hj)] at e; exact e) hz))
                  refine P (ρ ++ [a]) H' ⟨⟨[a], rfl, fun b hb o eo z => ?_⟩, st1.keep, fun b y e n lv => ?_, st1.owd⟩ S2 (.ref a) (Rep.last S1.len.symm)
                  · rw [List.mem_singleton.mp hb] at eo
                    exact nδ a hd o eo z
                  · rcases st1.own b y e n lv with q | ⟨q1, q2⟩
                    · exact .inl q
                    · exact .inr ⟨List.mem_append_left _ q1, q2⟩
              · exact False.elim P
            · exact False.elim P
          · exact False.elim P
      · exact False.elim P
  · exact False.elim P
end
end Ip

set_option Elab.async false
set_option linter.all false
set_option maxRecDepth 100000
set_option maxHeartbeats 4000000
namespace Ip
open PySem PySem.Spec PyProof.Rows L2

/-! ### an own exception over ArithmeticError, its __init__ saying super().__init__(text), then self.reason = reason -/
abbrev aeTail : List Value := [.type "ArithmeticError", .type "Exception", .type "BaseException", .type "object"]
def riBody (q : Nat → Pos) (msg : Str) : List Stmt :=
  [.Expr (.Call (.Attribute (.Call (.Name "super" (q 0)) [] [] (q 1)) "__init__" (q 2)) [.Constant (.str msg) 0 (q 3)] [] (q 4)) (q 5),
   .Assign [.Attribute (.Name "self" (q 6)) "reason" (q 7)] (.Name "reason" (q 8)) (q 9)]
def riScope : Scope := { kind := .function, names := [("self", .local), ("reason", .local), ("__class__", .free), ("super", .globalImplicit)], isGenerator := false, isCoroutine := false, more := [] }
def riParams (a b : Pos) : Arguments := { posonlyargs := [], args := [{ arg := "self", annotation := none, pos := a }, { arg := "reason", annotation := none, pos := b }], vararg := none, kwonlyargs := [], kw_defaults := [], kwarg := none, defaults := [] }
structure RefC (P : Program) (K : PySem.W.Frag) (mg : Str → Option Value) (C fI : Addr) (fd : FuncData) : Prop where
  cls : ∃ nm q N bs sn sub ab col dd k0 k1 k2 k3 k5, K.lookup C = some (excClassObj nm q C N bs aeTail true sn sub ab col dd k0 k1 k2 k3 k5 "ArithmeticError.__new__")
  sa : PySem.W.findIn K (.ref C) "__setattr__" = some (some (.builtin "object.__setattr__"))
  exC : PySem.W.subIn K (.ref C) (.type "BaseException") = some true
  arC : PySem.W.subIn K (.ref C) (.type "ArithmeticError") = some true
  tyC : PySem.W.typeIn K (.ref C) = some (.type "type")
  kC : PySem.W.keepIn K (.ref C) = true
  iC : PySem.W.findIn K (.ref C) "__init__" = some (some (.ref fI))
  tI : PySem.W.typeIn K (.ref fI) = some (.type "function")
  no : PySem.W.findIn K (.ref C) "reason" = some none
  self : PySem.W.mroIn K C (.ref C) = some true
  sup : PySem.W.ks_superIn K C C "__init__" = some (some (.builtin "ArithmeticError.__init__"))
  mgs : mg "super" = none
  top : (P.main.scope.names.lookup ("super" : Str)).isSome = false
  opq : PySem.W.nsIn K cStatics "thirdparty.any" = some none
  fn : ∃ (oc : Value) (od : Option Addr) (osl : Array (Option Value)) (pa pb : Pos) (q : Nat → Pos) (msg : Str) (kV doc pm ct : Value) (an : Option Addr) (cc cda : Addr) (vs : Array Value) (file : Str) (tf : Tok) (ccl cl : Value) (cdd cld : Option Addr) (ccs csl : Array (Option Value)),
    fd = PySem.W.ksFn "__init__" "Refused.__init__" (riParams pa pb) (riBody q msg) riScope .none kV doc pm an (.ref cda) ct cc ∧ K.lookup fI = some ⟨oc, od, .func fd, osl⟩ ∧ PySem.W.codeIn K (.ref cda) "Refused.__init__" = true ∧
      ((q 2).endLine == (q 4).line) = true ∧ K.lookup cda = some ⟨ccl, cdd, .fields vs, ccs⟩ ∧ vs[2]? = some (.str file tf) ∧ ((P.main.file : Str) == file) = true ∧ K.lookup cc = some ⟨cl, cld, .cell (some (.ref C)), csl⟩
abbrev riEnv (L fI cda cc : Addr) : Env := PySem.W.ksEnv "Refused.__init__" riScope L fI (.ref cda) cc
def riCx (CX : CXT) (P : Program) (w : World) (K : PySem.W.Frag) (mg : Str → Option Value) (base : Heap) (fI cda cc : Addr) (A : Around) (outer : List Env) (s : Shared) (H : Hp) (E : XK) : Cx where
  prog := P
  w := w
  K := K
  mg := mg
  base := base
  A := A.deeper (riEnv s.heap.objs.size fI cda cc)
  N := ["self", "reason"]
  s_0 := s
  H_0 := H
  env := riEnv s.heap.objs.size fI cda cc
  outer := outer
  stack := riEnv s.heap.objs.size fI cda cc :: outer
  ex := []
  calm := true
  fn := fun _ => false
  pn := []
  xe := fun e s' => wpAny (model P w) (A.deeper (riEnv s.heap.objs.size fI cda cc)) (leaving (riEnv s.heap.objs.size fI cda cc) e) (fun _ s'' => CX outer H s E e s'') (fun e' s'' => CX outer H s E e' s'') s'
section
variable {CX : CXT} {P : Program} {w : World} {K : PySem.W.Frag} {mg : Str → Option Value} {base : Heap} {fI cda cc C : Addr} {A : Around} {outer : List Env} {s : Shared} {H : Hp} {E : XK} {a : Addr} {y : V} {u : Value} {h₁ : Heap} {tk : Nat}
theorem ri_start (hd : A.handled = none) (e0 : Env0 P w K mg base A outer s H) (hns : h₁.Ns s.heap.objs.size fun x => ((["self", "reason"] : List Str).zip [Value.ref a, u]).reverse.lookup x) (hk : ∀ b o, s.heap.get? b = some o → h₁.get? b = some o) (ry : RelV y u)
    {cl : Value} {cld : Option Addr} {csl : Array (Option Value)} (hcell : K.lookup cc = some ⟨cl, cld, .cell (some (.ref C)), csl⟩) : Inv (riCx CX P w K mg base fI cda cc A outer s H E) [] [some (.ref a), some y] H { s with heap := h₁, toks := tk } := by
  have noA : ∀ b : Addr, b ∉ (riCx CX P w K mg base fI cda cc A outer s H E).ex := fun b z => absurd (show b ∈ ([] : List Addr) from z) (by simp)
  have KX : K.In s.heap := e0.mod.kin.keeps fun b o e => (e0.bs b o e).1
  have one : ∀ {y : Str} {c : Addr}, (riCx CX P w K mg base fI cda cc A outer s H E).env.cells.lookup y = some c → y = "__class__" ∧ c = cc := fun {y c} h => by
    have h : (([("__class__", cc)] : List (Str × Addr))).lookup y = some c := h
    have := PySem.mem_of_lookup h
    simp at this
    exact this
  refine ⟨⟨e0.mod, rfl, rfl, rfl, Nat.le_refl _, fun y z c h1 h2 => (one h1).1.trans (one h2).1.symm, fun y hy => ?_, fun y c h _ => ?_, fun _ => hd, Around.frames_deeper e0.frames, .inr ⟨rfl, rfl⟩, fun b z => absurd z (noA b), e0.bs, e0.bsz, fun b _ _ => noA b, fun b z => absurd z (noA b), e0.funs, e0.frf⟩,
    rfl, e0.bare, Un.kept hk, ⟨_, hns, fun i x v h1 h2 h3 => ?_⟩, fun y c h => ?_, e0.hok.fresh (Nat.le_refl _), fun y c h => ?_, fun p hp => absurd (show p ∈ ([] : List (Addr × Obj)) from hp) (by simp), e0.hok.kept hk, rfl⟩
  · have hy : riScope.names.lookup y = some .cell ∨ riScope.names.lookup y = some .free := hy
    have : y = "__class__" := by
      rcases hy with hy | hy
      · have := PySem.mem_of_lookup hy
        simp [riScope] at this
      · have := PySem.mem_of_lookup hy
        simpa [riScope] using this
    subst this
    exact ⟨cc, by show (([("__class__", cc)] : List (Str × Addr))).lookup ("__class__" : Str) = some cc; simp⟩
  · exact Bool.noConfusion (show false = true from h)
  · have h1 : (["self", "reason"] : List Str)[i]? = some x := h1
    have h2 : [some (V.ref a), some y][i]? = some (some v) := h2
    match i with
    | 0 =>
      cases h1
      cases h2
      exact ⟨.ref a, rfl, .inl ⟨by show riScope.names.lookup ("self" : Str) = _; decide, by first | rfl | decide | simp⟩⟩
    | 1 =>
      cases h1
      cases h2
      exact ⟨u, ry, .inl ⟨by show riScope.names.lookup ("reason" : Str) = _; decide, by first | rfl | decide | simp⟩⟩
    | i + 2 => simp at h1
  · rw [(one h).2]
    exact ⟨_, _, hk _ _ (KX _ _ hcell), rfl⟩
  · rw [(one h).2]
    exact (e0.bs _ _ (e0.mod.kin _ _ hcell)).2
end
section
open Builtin Builtin.ObjectAttr
variable {prog : Program} {w : World} {A : Around} {E : Value → Shared → Prop} {R : Result → Shared → Prop} {hp : Heap} {g : Array GenState} {d : Drawn} {t : Nat} {os : OsState}
theorem ae_osa {K : W.Frag} {name : Str} {tk : Tok} {v : Value} {x C : Addr} {fv : Array Value} {cd : ClassData}
    (X : K.In hp) (hx : hp.get? x = some { cls := .ref C, data := .fields fv }) (hcd : W.clsIn K C = some cd) (hm : cd.mro = .ref C :: aeTail) (hh : cd.hasDict = true) (ha : W.findIn K (.ref C) name = some none)
    (hq : ∀ h' tk' dx, (∀ b o, b ≠ x → hp.get? b = some o → h'.get? b = some o) → hp.objs.size ≤ dx → dx ≠ x → h'.get? x = some { cls := .ref C, dict := some dx, data := .fields fv } →
      h'.Ns1 dx (fun y => if y = name then some v else none) → R (.ok (.ret .none)) ⟨h', g, d, tk', os⟩) :
    codeAny (model prog w) A (.call (.builtin "object.__setattr__") ⟨[.ref x, .str name tk, v], []⟩) R ⟨hp, g, d, t, os⟩ := by
  have I : W.InstAt hp x { cls := .ref C, data := .fields fv } C none := ⟨hx, rfl, rfl, trivial⟩
  have SF := F.store_object
  have ne : cd.mro.isEmpty = false := by rw [hm]; rfl
  have hob : cd.mro.contains (.type "object") = true := by rw [hm, List.contains_cons]; exact Bool.or_eq_true_iff.mpr (.inr (by decide +kernel))
  have hxs : x ≠ hp.objs.size := Nat.ne_of_lt (Heap.lt_size hx)
  have sub : W.Looks (model prog w) hp (isInstance (.ref x) (.type "object")) true := I.type.andThen (W.looks_mroIn X (by unfold W.mroIn; rw [hcd, Option.bind_some, if_neg (by rw [ne]; decide), hob]))
  refine codeAny_call_builtin SF.slot.plain SF.entry (@W.check_slot (model prog w) _ _ ⟨hp, g, d, t, os⟩ "object.__setattr__" "object" "__setattr__" (.ref x) [.str name tk, v] [] _ SF.kind SF.split sub (SF.args (.ref x) (.str name tk) v) ?_)
  have hmr : W.Looks (model prog w) hp (mroOf (.ref C)) cd.mro := (W.looks_clsIn X hcd).andThen .now
  have L3 : W.Looks (model prog w) hp (storeTaker? none) none := .now
  have hcls : W.Looks (model prog w) hp (classData C) cd := W.looks_clsIn X hcd
  have pass : refuseLoop (.ref x) "__setattr__" cd.mro = pure () := by
    rw [hm, refuseLoop_ref]
    exact PySem.F.store_ArithmeticError.passes _
  rw [W.osa_eq, refuse_eq]
  refine wpAny_bind (wpAny_bind (I.type.at (wpAny_bind (hmr.at ?_))))
  rw [pass]
  refine wpAny_pure (wpAny_bind (I.type.at (wpAny_bind ((W.looks_findIn X ha).at (wpAny_bind (L3.at ?_))))))
  show wpAny _ _ (storeInOwnDict (.ref x) (.ref C) (.str name tk) name v false) _ _ _
  obtain ⟨nm, bs, mro, ns, qn, hd, sn, sb, ab, col, del⟩ := cd
  dsimp only at hh
  subst hh
  unfold storeInOwnDict ownDictForStores
  repeat (first | with_reducible refine HandSPX.store_in_new ?_ ?_ | with_reducible refine wpAny_loadPart_at hx ?_ | with_reducible refine hcls.at ?_ | wp_step)
  · exact ⟨_, #[], _, (Heap.get?_update_ne _ _ _ _ hxs.symm).trans (Heap.get?_push_at rfl rfl), rfl, fun e he => absurd he (by simp), fun _ => rfl⟩
  · intro h' tk' hn' hs
    have hx₁ : (hp.push { cls := .type "dict", data := .dict #[] }).get? x = some { cls := .ref C, data := .fields fv } := Heap.get?_push_of_some _ hx
    refine hq h' tk' hp.objs.size (fun b o hb ho => ?_) (Nat.le_refl _) hxs.symm ?_ hn'
    · exact (hs.2 b (Nat.ne_of_lt (Heap.lt_size ho))).trans ((Heap.get?_update_ne _ _ _ _ hb).trans (Heap.get?_push_of_some _ ho))
    · exact (hs.2 x hxs).trans (Heap.get?_update_self _ hx₁ rfl)
end
section
variable {X : Cx} {pins : List (Addr × Obj)} {σ : L2.St} {H : Hp} {s : Shared} {a C fI : Addr} {fd : FuncData} {f : Str} {y : V} {u : Value} {Q : Unit → Shared → Prop} {E : Value → Shared → Prop} {A : Around}
/-- self.reason = y -/
theorem ae_set (T : RefC X.prog X.K X.mg C fI fd) (I : Inv X pins σ H s) (e : H a = some (exo a C none)) (hno : PySem.W.findIn X.K (.ref C) f = some none) (ry : RelV y u)
    (h : ∀ dx s', H dx = none → dx ≠ a → Inv X pins σ (upd (upd H dx (exd dx [(f, y)])) a (exo a C (some dx))) s' → Q () s') : wpAny (model X.prog X.w) A (setAttr (.ref a) f u) Q E s := by
  obtain ⟨nm, q, N, bs, sn, sub, ab, col, dd, k0, k1, k2, k3, k5, hC⟩ := T.cls
  have hcl : PySem.W.clsIn X.K C = some { name := nm, bases := bs, mro := .ref C :: aeTail, ns := N, qualname := q, hasDict := true, slotNames := sn, subclasses := sub, abstract := ab, collection := col, hasDel := false } := by unfold PySem.W.clsIn; rw [hC] <;> rfl
  obtain ⟨t1, ho⟩ := exo_at I.hok e
  obtain ⟨hp, g, d, t, os⟩ := s
  refine PySem.W.set_plain I.kIn (ox := { cls := .ref C, dict := none, data := .fields #[.ref t1, .none, .none, .none, .bool false, .none] }) (od := none) ⟨ho, rfl, rfl, trivial⟩ T.sa ?_
  refine ae_osa I.kIn ho hcl rfl rfl hno (fun h' tk' dx k dn dne hx hn => ?_)
  have hnd : H dx = none := I.hok.fresh dn
  have nd : ∀ {b : Addr} {o : Obj}, hp.get? b = some o → b ≠ dx := fun {b o} q => Nat.ne_of_lt (Nat.lt_of_lt_of_le (Heap.lt_size q) dn)
  have na : ∀ {b : Addr}, H b = none → b ≠ a := fun {b} n z => by
    rw [z, e] at n
    cases n
  have Un1 : Un X.fs [] H (upd (upd H dx (exd dx [(f, y)])) a (exo a C (some dx))) hp h' := {
    keep := fun b o q n _ _ => k b o (na n) q
    slot := fun b o q n _ _ => ⟨o.slots, k b o (na n) q⟩
    free := fun b o q n _ => by rw [upd_ne (na n), upd_ne (nd q)]; exact n
    there := fun b o q _ => by
      by_cases hb : b = a
      · exact ⟨_, by rw [hb]; exact hx⟩
      · exact ⟨o, k b o hb q⟩
    tups := fun b xs q => by rw [upd_ne (at_ne e q exo_tup), upd_ne (ne_of_none q hnd)]; exact q
    frzs := fun b o v q => by rw [upd_ne (at_ne e q exo_frz), upd_ne (ne_of_none q hnd)]; exact q
    tbls := fun b ps q => ⟨#[], by rw [upd_ne (at_ne e q exo_tbl), upd_ne (ne_of_none q hnd), q]; simp⟩ }
  refine h dx _ hnd dne (I.un (t' := tk') Un1 fun b o q => ?_)
  by_cases hb : b = a
  · subst hb
    rw [upd_same] at q
    cases q
    exact exo_ok hx
  · rw [upd_ne hb] at q
    by_cases hd : b = dx
    · subst hd
      rw [upd_same] at q
      cases q
      exact exd_ok hn (relO_put (fs := []) ry fun g => True.intro)
    · rw [upd_ne hd] at q
      exact (I.hok b o q).stay (fun c v hc z => k c v (by
          rcases hc with hc | hc
          · rw [hc]
            exact hb
          · exact at_ne e hc exo_own) z)
        (fun c hc => by rw [upd_ne (at_ne e hc exo_own), upd_ne (ne_of_none hc hnd)]; exact hc) (fun c xs hc => by rw [upd_ne (at_ne e hc exo_tup), upd_ne (ne_of_none hc hnd)]; exact hc)
end
theorem callW_ht {o : Expr} {m : Str} {apos pos : Pos} {args : List Expr} {env : Env} (h2 : methodCallForm (args.length + ([] : List Keyword).length) (backTo pos (starEach args env)) (backToKw pos (keywordEach [] env)) = true) (h3 : (apos.endLine == pos.line) = true) :
    eval (.Call (.Attribute o m apos) args [] pos) env = (do
      let ov ← attributeBase o m env (eval o env)
      standAt apos.atName
      let (f, first) ← holding [ov] (getMethod ov m (do return (← importBound o env).getD true))
      callWith pos f first (backTo pos (starEach args env)) []) := by
  show (do
    let ov ← attributeBase o m env (eval o env)
    standAt apos.atName
    methodCall o m apos pos env ov (args.length + ([] : List Keyword).length) (backTo pos (starEach args env)) (backToKw pos (keywordEach [] env))) = _
  unfold methodCall calleeOf methodCallPos
  rw [h2, h3]
  rfl
def tAes (C : Addr) (f : Str) (to te : TE) : TS := fun D σ H => te σ H fun y H1 => to σ H1 fun x H2 => ∃ a : Addr, x = .ref a ∧ H2 a = some (exo a C none) ∧ ∀ dx, H2 dx = none → dx ≠ a → D.nx σ (upd (upd H2 dx (exd dx [(f, y)])) a (exo a C (some dx)))
theorem ps_aeset {X : Cx} {C fI : Addr} {fd : FuncData} {f : Str} {o e : Expr} {to te : TE} {p' pos : Pos} (T : RefC X.prog X.K X.mg C fI fd) (hno : PySem.W.findIn X.K (.ref C) f = some none) (ho : PE X o to) (he : PE X e te) (hs : swapsWith e (some (.Attribute o f p')) pos.line X.env = pure false := by rfl) :
    PS X (.Assign [.Attribute o f p'] e pos) (tAes C f to te) := by
  refine ⟨fun pins s σ H D I h => ?_⟩
  refine plainObj_wpAny_Assign_Attribute (thn (he.run pins s σ H _ I h) fun v s1 ⟨y, H1, I1, r1, q1⟩ => thn (ho.run pins s1 σ H1 _ I1 q1) fun u s2 ⟨x, H2, I2, r2, a, ex, ea, q⟩ => ?_) hs
  subst ex
  obtain rfl : u = Value.ref a := r2
  exact ae_set T I2 ea hno r1 fun dx s' n ne J => ⟨σ, _, J, q dx n ne⟩
/-- Refused.__init__(self, reason) -/
def spRe (C : Addr) : Sp := fun vs H Q _ => ∃ (a : Addr) (y : V), vs = [.ref a, y] ∧ H a = some (exo a C none) ∧ ∀ d, H d = none → d ≠ a → Q .non (upd (upd H d (exd d [("reason", y)])) a (exo a C (some d)))
section
variable {P : Program} {w : World} {K : PySem.W.Frag} {mg : Str → Option Value} {base : Heap} {CX : CXT} {k : Nat} {C fI : Addr} {fd : FuncData}
/-- the built-in __init__, bound to the exception, called -/
theorem ae_call {X : Cx} {pins : List (Addr × Obj)} {σ : L2.St} {H : Hp} {hp : Heap} {g : Array GenState} {d : Drawn} {t : Nat} {os : OsState} {a u t0 : Addr} {A : Around} {E : Value → Shared → Prop} {Q : Value → Shared → Prop} {v : Value} (I : Inv X pins σ H ⟨hp, g, d, t, os⟩)
    (T : RefC X.prog X.K X.mg C fI fd) (hu : hp.get? u = some (PySem.W.kxs_mw "ArithmeticError.__init__" a)) (he : hp.get? a = some (PySem.HandSPX.excO C t0)) (ea : H a = some (exo a C none))
    (h : ∀ h', Inv X pins σ H ⟨h', g, d, t, os⟩ → Q .none ⟨h', g, d, t, os⟩) : wpAny (model X.prog X.w) A (call (.ref u) [v]) Q E ⟨hp, g, d, t, os⟩ := by
  obtain ⟨nm, q, N, bs, sn, sub, ab, col, dd, k0, k1, k2, k3, k5, hC⟩ := T.cls
  refine wpAny_call (codeAny_of_tree ?_)
  show wpAny _ A.in1 (callAny (.ref u) ⟨[v], []⟩) _ _ _
  simp only [callAny]
  refine wpAny_bind (wpAny_load hu ?_)
  simp only [PySem.W.kxs_mw, show (Value.type "method-wrapper" == Value.type "method" || Value.type "method-wrapper" == Value.type "builtin_function_or_method" || Value.type "method-wrapper" == Value.type "method-wrapper") = true by decide, if_true]
  refine PySem.W.KFB.if_so (by decide) ?_
  refine wpAny_bind (PySem.W.check_bound_init PySem.F.excBase_ArithmeticError.toExcCallFacts (I.kIn _ _ hC) he rfl ?_)
  refine wpAny_bind (wpAny_pure (wpAny_pure ?_))
  refine ⟨plainId_quiet PySem.F.excBase_ArithmeticError.init.plain _, codeAny_builtin PySem.F.excBase_ArithmeticError.initEntry ?_⟩
  refine PySem.W.exc_init_tree (cls := .ref C) (t0 := t0) (dv := none) (c2 := .none) (c3 := .none) (b4 := .bool false) he (show 1 ≤ sizeLine by decide) fun h' k e' t' => ?_
  have J := I.write (t' := t) (x := a) (e := a) (o := exo a C none) (by rw [ea]; exact True.intro) (.inl rfl) k ⟨_, e'⟩ (exo_ok e')
  have eu : upd H a (exo a C none) = H := by
    funext b
    by_cases hb : b = a
    · rw [hb, upd_same, ea]
    · rw [upd_ne hb]
  rw [eu] at J
  exact h _ J
theorem ri_ok (T : RefC P K mg C fI fd) : FnOk P w K mg base CX k fI fd ["self", "reason"] (spRe C) := by
  obtain ⟨oc, od, osl, pa, pb, q, msg, kV, doc, pm, ct, an, cc, cda, vs0, file, tf, ccl, cl, cdd, cld, ccs, csl, rfl, lk, hcd, hline, hcode, hvs, hfile, hcell⟩ := T.fn
  refine ⟨fun vs H Q E ⟨a, y, e, _⟩ => by rw [e]; rfl, fun A outer s H args us vs Q E hr e0 hb r ⟨a, y, ev, ea, hq⟩ => ?_⟩
  subst ev
  obtain ⟨u1, u2, rfl, r1, r2⟩ := vals2 r
  obtain rfl : u1 = Value.ref a := r1
  have KX : K.In s.heap := e0.mod.kin.keeps fun b o e => (e0.bs b o e).1
  have lim : s.heap.NoLimit := e0.mod.nolimit.keeps fun b o e => (e0.bs b o e).1
  refine ks_codeAny_call_defAt (body := riBody q msg) hr.depth (KX _ _ lk) rfl lim (PySem.W.codeRec_of KX hcd) rfl hb (by show ∀ x ∈ riScope.names, x.2 ≠ .cell; decide) (fun x hx => ?_) (fun h₁ hns hk₁ => ?_) rfl rfl rfl
  · have hx : x ∈ (["self", "reason"] : List Str).zip [Value.ref a, u2] := hx
    simp only [List.zip_cons_cons, List.zip_nil_right, List.mem_cons, List.not_mem_nil, or_false] at hx
    rcases hx with rfl | rfl
    · show riScope.names.lookup ("self" : Str) = _; decide
    · show riScope.names.lookup ("reason" : Str) = _; decide
  have I : Inv (riCx CX P w K mg base fI cda cc A outer s H E) [] [some (.ref a), some y] H { s with heap := h₁, toks := s.toks + ((["self", "reason"] : List Str).zip [Value.ref a, u2]).length } := ri_start hr.hd e0 hns hk₁ r2 hcell
  have hxe : ∀ e s', (riCx CX P w K mg base fI cda cc A outer s H E).xe e s' → wpAny (model P w) (A.deeper (riEnv s.heap.objs.size fI cda cc)) (leaving (riEnv s.heap.objs.size fI cda cc) e) (fun _ s'' => CX outer H s E e s'') (fun e' s'' => CX outer H s E e' s'') s' := fun e s' h => h
  refine ks_wpAt_execs_cons (ks_wpAt_Expr_any (ks_wpAt_MethodCall (pl := (do return (← importBound (.Call (.Name "super" (q 0)) [] [] (q 1)) (riEnv s.heap.objs.size fI cda cc)).getD true)) ?_ (callW_ht rfl hline)) rfl rfl)
  have ksup : (riEnv s.heap.objs.size fI cda cc).kindOf "super" = some .globalImplicit := by show riScope.names.lookup ("super" : Str) = _; decide
  have kcls : (riEnv s.heap.objs.size fI cda cc).kindOf "__class__" = some .free := by show riScope.names.lookup ("__class__" : Str) = _; decide
  have kslf : (riEnv s.heap.objs.size fI cda cc).kindOf "self" = some .local := by show riScope.names.lookup ("self" : Str) = _; decide
  obtain ⟨cd, hcC, hcm⟩ : ∃ cd, PySem.W.clsIn K C = some cd ∧ cd.mro = .ref C :: aeTail := by
    obtain ⟨nm, q, N, bs, sn, sub, ab, col, dd, k0, k1, k2, k3, k5, hC⟩ := T.cls
    exact ⟨_, by unfold PySem.W.clsIn; rw [hC], rfl⟩
  obtain ⟨oD, hD1, hD2⟩ : ∃ oD, K.lookup C = some oD ∧ oD.data = .cls cd := by
    unfold PySem.W.clsIn at hcC
    split at hcC
    · rename_i ho
      cases hcC
      exact ⟨_, ho, rfl⟩
    · cases hcC
  refine ks_wpAt_super_base (ar := { arg := "self", annotation := none, pos := pa }) ksup kcls rfl rfl (I.kIn _ _ lk) rfl rfl rfl (I.kIn _ _ hcode) rfl hvs hfile T.top ?_
  obtain ⟨mb, m1, m2⟩ := e0.mod.blt
  refine PySem.W.ks_loadName_global rfl ksup (Calls.loadGlobal_builtin (I.mod.glob.keeps I.bk) T.mgs (m1.keeps I.bk) ((m2 _ (by decide)).trans (by decide +kernel)) ⟨rfl, ?_⟩)
  refine wpAny_loadName_free rfl kcls rfl ⟨_, I.kIn _ _ hcell, rfl⟩ ?_
  refine wpAny_loadName_local rfl kslf hns (v := .ref a) (by first | rfl | simp | decide) ?_
  refine ks_wpAny_isType_cls (I.kIn _ _ hD1) hD2 ⟨rfl, ?_⟩
  obtain ⟨t1, hoe⟩ := exo_at I.hok ea
  refine ks_wpAny_call_super (I.kIn _ _ hD1) hD2 hoe rfl (fun c z => by cases z) (PySem.W.looks_mroIn I.kIn T.self) (fun h' eso kk => ?_)
  have I2 := I.kept (h' := h') (t' := s.toks + ((["self", "reason"] : List Str).zip [Value.ref a, u2]).length) kk
  have Ia : PySem.W.InstAt h' a { cls := .ref C, data := .fields #[.ref t1, .none, .none, .none, .bool false, .none] } C none := ⟨kk _ _ hoe, rfl, rfl, trivial⟩
  have hsup : PySem.W.alongIn K "__init__" ((cd.mro.dropWhile (· != .ref C)).drop 1) = some (some (.builtin "ArithmeticError.__init__")) := by
    have := T.sup
    unfold PySem.W.ks_superIn at this
    rw [hcC] at this
    exact this
  refine PySem.W.kxs_getMethod PySem.W.kxs_ArithmeticError eso (PySem.W.looks_opaque I2.kIn T.opq) (l₀ := cd.mro) ((PySem.W.looks_clsIn I2.kIn hcC).andThen .now) rfl I2.kIn hsup (Ia.type.andThen (PySem.W.looks_subIn I2.kIn T.arC)) (PySem.W.ks_ne I2.kIn Ia hcC) (by decide) ?_
  have I3 := I2.kept (h' := h'.push (PySem.W.kxs_mw "ArithmeticError.__init__" a)) (t' := s.toks + ((["self", "reason"] : List Str).zip [Value.ref a, u2]).length + 1) fun b o e => Heap.get?_push_of_some _ e
  have hmw : (h'.push (PySem.W.kxs_mw "ArithmeticError.__init__" a)).get? h'.objs.size = some (PySem.W.kxs_mw "ArithmeticError.__init__" a) := Heap.get?_push_size _ rfl
  refine PySem.W.kxs_callWith (i := "ArithmeticError.__init__") (x := a) rfl (PySem.Calls.evalArgs_plain (Calls.spliced_cons ?_))
  show wpAny _ _ (eval (.Constant (.str msg) 0 (q 3)) _) _ _ _
  refine Calls.Constant_str (Calls.spliced_nil ⟨hmw, ?_⟩)
  have I4 := I3.tok (s.toks + ((["self", "reason"] : List Str).zip [Value.ref a, u2]).length + 1 + 1)
  have hoe4 : (h'.push (PySem.W.kxs_mw "ArithmeticError.__init__" a)).get? a = some (PySem.HandSPX.excO C t1) := Heap.get?_push_of_some _ (kk _ _ hoe)
  refine ae_call I4 T hmw hoe4 ea fun h5 I5 => ?_
  have hps : PSs (riCx CX P w K mg base fI cda cc A outer s H E) [.Assign [.Attribute (.Name "self" (q 6)) "reason" (q 7)] (.Name "reason" (q 8)) (q 9)] (tAes C "reason" (tVar 0) (tVar 1)) :=
    pss_one (ps_aeset (X := riCx CX P w K mg base fI cda cc A outer s H E) T T.no (pe_var (i := 0) rfl (.inl kslf)) (pe_var (i := 1) rfl (.inl (by show riScope.names.lookup ("reason" : Str) = _; decide))))
  refine PySem.wpAt_of_wpAny (wpAny_mono (hps.run [] _ [some (.ref a), some y] H { nx := fun _ H' => Q .non H', rt := Q } I5 ⟨y, rfl, .ref a, rfl, a, rfl, ea, fun d h1 h2 => hq d h1 h2⟩) (fun fl s' hs => ?_) fun e s' hs => hs)
  have fin : ∀ {σ' : L2.St} {H' : Hp} {v : V} {u : Value}, Inv (riCx CX P w K mg base fI cda cc A outer s H E) [] σ' H' s' → RelV v u → Q v H' → CE outer P w H s Q u s' :=
    fun {σ' H' v u} J rv q => ⟨v, H', J.os, J.bare, J.base, J.hok, rv, q⟩
  cases fl with
  | ret u =>
    obtain ⟨v, σ', H', J, rv, q⟩ := hs
    exact fin J rv q
  | next =>
    obtain ⟨σ', H', J, q⟩ := hs
    exact fin (v := V.non) (u := Value.none) J rfl q
  | brk =>
    obtain ⟨_, _, _, q⟩ := hs
    exact False.elim q
  | cont =>
    obtain ⟨_, _, _, q⟩ := hs
    exact False.elim q
end
end Ip

set_option Elab.async false
set_option linter.all false
set_option maxRecDepth 100000
set_option maxHeartbeats 4000000
namespace Ip
open PySem PySem.Spec PyProof.Rows L2
section
variable {X : Cx} {CX : CXT} {C fI : Addr} {fd : FuncData} {e : Expr} {te : TE} {x : Str} {p pos : Pos}
theorem ri_binds {P : Program} {K : PySem.W.Frag} {mg : Str → Option Value} (T : RefC P K mg C fI fd) : Binds K fd ["self", "reason"] [] := by
  obtain ⟨oc, od, osl, pa, pb, q, msg, kV, doc, pm, ct, an, cc, cda, vs0, file, tf, ccl, cl, cdd, cld, ccs, csl, rfl, _⟩ := T.fn
  refine .all fun us hl => ?_
  match us, hl with
  | [u1, u2], _ => rfl
def tMkA (C : Addr) (te : TE) : L2.St → Hp → XK → Prop := fun σ H Q => te σ H fun y H1 => ∀ d, H1 d = none → Q (.ref C) (some d) (upd H1 d (.xd [("reason", y)]))
theorem pmk_aex (T : RefC X.prog X.K X.mg C fI fd) (hr : Room 1 X.A) (hx : Passes CX X (fun _ _ _ => False)) (hg : Gl X x) (hm : X.mg x = some (.ref C)) (hte : PE X e te)
    (hdb : (x == ("__debug__" : Str)) = false) (he : starEach [e] X.env = (false, eval e X.env) :: starEach [] X.env) :
    PMk X (.Call (.Name x p) [e] [] pos) (tMkA C te) := by
  intro pins s σ H Q I h
  obtain ⟨nm, q, N, bs, sn, sub, ab, col, dd, k0, k1, k2, k3, k5, hC⟩ := T.cls
  have ha : PA X [e] (tCons te tNil) := pa_cons hte pa_nil he
  refine wpAny_Call_Name_kw (ld_glob I hg hm ?_ hdb)
  refine PySem.W.callWith_K (h₀ := X.base) I.ok.mod.kin T.kC (thn (ha.run pos pins s σ H (fun vs H1 => match vs with
    | [y] => ∀ d, H1 d = none → Q (.ref C) (some d) (upd H1 d (.xd [("reason", y)]))
    | _ => False) I h) fun us s1 ⟨vs, H1, I1, r1, q1⟩ => ⟨I1.kIn, ?_⟩) he rfl
  obtain ⟨y, rfl⟩ : ∃ y, vs = [y] := by
    match vs, q1 with
    | [y], _ => exact ⟨y, rfl⟩
  obtain ⟨u, rfl, ru⟩ := vals1 r1
  show wpAny _ _ (call (.ref C) [u]) _ _ _
  obtain ⟨hp, g, dr, tk, os⟩ := s1
  have hsz : hp.objs.size ≤ hp.objs.size + 1 := Nat.le_succ _
  have hn : H1 (hp.objs.size + 1) = none := I1.hok.fresh hsz
  have kk : ∀ b o, hp.get? b = some o → ((hp.push (PySem.W.kdv_tup [u])).push (PySem.HandSPX.excO C hp.objs.size)).get? b = some o := fun b o e => Heap.get?_push_of_some _ (Heap.get?_push_of_some _ e)
  have hget : ((hp.push (PySem.W.kdv_tup [u])).push (PySem.HandSPX.excO C hp.objs.size)).get? (hp.objs.size + 1) = some (PySem.HandSPX.excO C hp.objs.size) := by heap_get
  have I2 : Inv X pins σ (upd H1 (hp.objs.size + 1) (exo (hp.objs.size + 1) C none)) ⟨(hp.push (PySem.W.kdv_tup [u])).push (PySem.HandSPX.excO C hp.objs.size), g, dr, tk, os⟩ :=
    I1.laid (t' := tk) (a := hp.objs.size + 1) (o := exo (hp.objs.size + 1) C none) (h' := (hp.push (PySem.W.kdv_tup [u])).push (PySem.HandSPX.excO C hp.objs.size)) kk hsz (exo_ok hget)
  have r2 : Vals [V.ref (hp.objs.size + 1), y] [Value.ref (hp.objs.size + 1), u] := .cons rfl (.cons ru .nil)
  have F1 : FnOk X.prog X.w X.K X.mg X.base CX 0 fI fd ["self", "reason"] (spRe C) := ri_ok T
  have hq : spRe C [V.ref (hp.objs.size + 1), y] (upd H1 (hp.objs.size + 1) (exo (hp.objs.size + 1) C none)) (fun v H2 => v = .non ∧ ∃ d, H1 d = none ∧ d ≠ hp.objs.size + 1 ∧ H2 = upd (upd (upd H1 (hp.objs.size + 1) (exo (hp.objs.size + 1) C none)) d (exd d [("reason", y)])) (hp.objs.size + 1) (exo (hp.objs.size + 1) C (some d))) (fun _ _ _ => False) :=
    ⟨_, y, rfl, upd_same, fun d h1 h2 => ⟨rfl, d, by rw [upd_ne h2] at h1; exact h1, h2, rfl⟩⟩
  refine wpAny_call (PySem.HandSPX.call_own F.excBase_ArithmeticError (fun _ => rfl) (I1.kIn _ _ hC) (PySem.W.looks_findIn I1.kIn T.iC) (fun self => PySem.W.bind_fn I1.kIn self T.tI) (show 1 ≤ sizeLine by decide)
    (codeAny_mono (F1.run _ X.stack _ _ ⟨[Value.ref (hp.objs.size + 1), u], []⟩ [Value.ref (hp.objs.size + 1), u] _ _ (fun _ _ _ => False) (hr.make C [u] []) (I2.env0.make C [u] []) (by have := ri_binds T _ [Value.ref (hp.objs.size + 1), u] I2.kIn rfl; rw [List.append_nil] at this; exact this) r2 hq) fun r s' hq' => ?_))
  cases r with
  | error er => exact hx pins σ _ _ er s' I2 hq'
  | ok fl =>
    cases fl with
    | ret u =>
      obtain ⟨v, H2, os2, bare2, un2, hok2, rv, ev, d, hd1, hda, eH2⟩ := hq'
      subst ev
      obtain ⟨h2, g2, d2, t2, os'⟩ := s'
      have e1 : H2 (hp.objs.size + 1) = some (exo (hp.objs.size + 1) C (some d)) := by rw [eH2, upd_same]
      have e2 : H2 d = some (exd d [("reason", y)]) := by rw [eH2, upd_ne hda, upd_same]
      have e3 : upd (del H2 (hp.objs.size + 1)) d (.xd [("reason", y)]) = upd H1 d (.xd [("reason", y)]) := by
        funext b
        by_cases hb : b = d
        · rw [hb, upd_same, upd_same]
        · rw [upd_ne hb, upd_ne hb]
          by_cases hb2 : b = hp.objs.size + 1
          · rw [hb2, del_same, hn]
          · rw [del_ne hb2, eH2, upd_ne hb2, upd_ne hb, upd_ne hb2]
      exact ⟨rv, mk_end (raises_own T.exC T.tyC) I1 hsz kk un2 hok2 os2 bare2 e1 e2 hd1 (by rw [e3]; exact q1 d hd1)⟩
    | next => exact False.elim hq'
    | brk => exact False.elim hq'
    | cont => exact False.elim hq'
end
end Ip

set_option Elab.async false
set_option linter.all false
set_option maxRecDepth 100000
set_option maxHeartbeats 4000000
namespace Ip
open PySem PySem.Spec PyProof.Rows L2

/-! ### several clauses, some of them with a name; nothing is let through -/
def unN : Option Nat → L2.St → L2.St
  | none, σ => σ
  | some i, σ => σ.set i none
def stN (a : Addr) : Option Nat → L2.St → L2.St
  | none, σ => σ
  | some i, σ => σ.set i (some (.ref a))
def unD (i : Option Nat) (D : Ends) : Ends := ⟨fun σ H => D.nx (unN i σ) H, D.rt, fun σ H => D.bk (unN i σ) H, fun σ H => D.ct (unN i σ) H⟩
abbrev Clz := Value × Option Nat × (Addr → Value → Option Addr → TS)
def wMix (K : PySem.W.Frag) (m : Nat) (D : Ends) : List Clz → WX
  | [] => fun _ _ _ _ => False
  | z :: r => fun cls d σ H => ∃ b, PySem.W.exmOne K cls z.1 = some b ∧ (b = true → ∀ a, H a = none → σ.length = m → z.2.2 a cls d (unD z.2.1 D) (stN a z.2.1 σ) H) ∧ (b = false → wMix K m D r cls d σ H)
def nmOk (X : Cx) : Option Nat → Option Str → Prop
  | none, none => True
  | some i, some n => X.N[i]? = some n ∧ X.env.kindOf n = some .local
  | _, _ => False
inductive Hdz (X : Cx) : List ExceptHandler → List Clz → Prop
  | nil : Hdz X [] []
  | cons {x : Str} {z : Clz} {n : Option Str} {b : Stmt} {bs : List Stmt} {p q : Pos} {hs : List ExceptHandler} {l : List Clz} (hc : Names X x z.1) (hn : nmOk X z.2.1 n)
      (hb : ∀ (a : Addr) (o : Obj) (cls : Value) (d : Option Addr) (pn : List (Addr × Obj)), Zc cls d o → (∃ vs, o.data = .fields vs) → PSs (X.suite a ((a, o) :: pn)) (b :: bs) (z.2.2 a cls d))
      (r : Hdz X hs l) : Hdz X (.ExceptHandler (some (.Name x p)) n (b :: bs) q :: hs) (z :: l)
section
variable {X : Cx} {pins : List (Addr × Obj)} {σ : L2.St} {H : Hp} {s : Shared} {D : Ends}
/-- the end of a suite -/
theorem flow_end {i : Option Nat} {f : Flow} {Y : Cx} {pn : List (Addr × Obj)} (un : ∀ {σ : L2.St} {H : Hp}, Inv Y pn σ H s → Inv X pins σ H s) (h : SP Y pn (unD none D) f s) : SP X pins D f s := by
  cases f with
  | ret u => obtain ⟨v, σ1, H1, J, q⟩ := h; exact ⟨v, σ1, H1, un J, q⟩
  | next => obtain ⟨σ1, H1, J, q⟩ := h; exact ⟨σ1, H1, un J, q⟩
  | brk => obtain ⟨σ1, H1, J, q⟩ := h; exact ⟨σ1, H1, un J, q⟩
  | cont => obtain ⟨σ1, H1, J, q⟩ := h; exact ⟨σ1, H1, un J, q⟩
variable {body : List Stmt} {h₀ : ExceptHandler} {hds : List ExceptHandler} {l : List Clz} {pos : Pos} {tb : WX → TS}
theorem ps_try_mix (hst : X.stack = X.env :: X.outer) (hfm : X.env.frame = some X.env.locals) (nd : X.N.Nodup)
    (hb : ∀ (W : WX) (pn : List (Addr × Obj)) (xe : Value → Shared → Prop), Takes (X.tr pn xe) W → PSs (X.tr pn xe) body (tb W)) (hh : Hdz X (h₀ :: hds) l) :
    PS X (.Try body (h₀ :: hds) [] [] pos) (fun D σ H => tb (wMix X.K X.N.length D l) D σ H) := by
  constructor
  intro pins s σ H D I h
  have frm : X.A.frames = some (X.env :: X.outer) := hst ▸ I.ok.frames
  refine wpAny_Try_except (wpAny_mono ((hb (wMix X.K X.N.length D l) (X.pn ++ pins) _ (fun u s' xx => ?_)).run [] s σ H D (I.toTry _) h) (fun f s1 q => ?_) fun _ _ z => z)
  rotate_left
  · have q' : SP X pins D f s1 := flow_end (i := none) (fun J => J.ofTry I.ok) q
    cases f <;> first | exact wpAny_execs_nil q' | exact q'
  obtain ⟨a, B, sI, pins', σ', H', cls, d, rfl, J', nb, up, sky, na, os, ag, w⟩ := xx
  have J := J'.ofTry I.ok
  rw [hst] at sky
  refine Sky.land Zc.steady frm hfm sky fun h3 fl3 up3 => ?_
  have J3 := J.landed (s' := { s' with heap := h3 }) nb fl3.1 (up.trans up3) os ag
  obtain ⟨oe3, vs3, he3, hz3, hd3⟩ := fl3.there
  have nfr : a ∉ frs (X.env :: X.outer) := fun hm => by
    obtain ⟨_, o', e', n'⟩ := fl3.2.2.1.mem hm
    exact n' vs3 (by rw [← Option.some.inj (he3.symm.trans e')]; exact hd3)
  have nL : a ≠ X.env.locals := fun z => nfr (List.mem_filterMap.mpr ⟨X.env, .head _, by rw [hfm, z]⟩)
  have nF : a ∉ X.fs := fun hm => by
    obtain ⟨e, he, q⟩ := List.mem_filterMap.mp hm
    exact nfr (List.mem_filterMap.mpr ⟨e, .tail _ he, q⟩)
  have S3 := J3.suite he3 hd3 na nL nF
  have LT : PySem.W.Looks (model X.prog X.w) h3 (typeOf (.ref a)) cls := fun _ _ _ _ k q => wpAny_typeOf_ref (k _ _ he3) (by rw [hz3.1]; exact q)
  clear h hb J'
  generalize h₀ :: hds = hl at hh
  induction hh with
  | nil => exact False.elim w
  | @cons x z n b bs p sp hs l hc hn hbd r ih =>
    obtain ⟨k, hk, yes, no⟩ := w
    refine wpAny_handleBy_cons (codeAny_handlers_test ?_) (by intro q; cases q)
    have tst : ∀ {Q E : Value → Shared → Prop}, Q z.1 { s' with heap := h3 } → wpAny (model X.prog X.w) (X.A.mark (some (.ref a))) (eval (.Name x p) X.env) Q E { s' with heap := h3 } := fun {Q E} q => by
      rcases hc with ⟨g1, g2, g3 | ⟨g3, g4, g5⟩⟩
      · exact ld_glob (X := X.suite a ((a, oe3) :: (X.pn ++ pins))) S3 g1 g3 q g2
      · exact ld_blt (X := X.suite a ((a, oe3) :: (X.pn ++ pins))) S3 g1 g3 g4 q g5 g2
    refine tst ((PySem.W.exm_one (M := model X.prog X.w) J3.kIn LT hk).here ?_)
    cases k with
    | false => exact ih (no rfl)
    | true =>
      have land : ∀ {h4 : Heap}, HandSPX.FlyingZ B (X.env :: X.outer) a (Zc cls d) h4 → h3.UpToSlots h4 → ∃ (o4 : Obj), (∃ vs, o4.data = .fields vs) ∧ Zc cls d o4 ∧ Inv (X.suite a ((a, o4) :: (X.pn ++ pins))) [] σ' H' { s' with heap := h4 } := fun {h4} fl4 up4 => by
        obtain ⟨o4, vs4, e4, z4, d4⟩ := fl4.there
        exact ⟨o4, ⟨_, d4⟩, z4, (J.landed (s' := { s' with heap := h4 }) nb fl4.1 ((up.trans up3).trans up4) os ag).suite e4 d4 na nL nF⟩
      match hz : z.2.1, n, hn with
      | none, none, _ =>
        refine codeAny_handlers_suite (HandSPX.lands_againZ fl3 fun h4 fl4 up4 => ?_)
        obtain ⟨o4, d4, z4, S4⟩ := land fl4 up4
        have y := yes rfl a na J.len
        rw [hz] at y
        exact wpAny_mono ((hbd a o4 cls d (X.pn ++ pins) z4 d4).run [] _ _ H' _ S4 y) (fun f s6 q => flow_end (i := none) (fun J => J.unsuite I.ok) q) fun _ _ z => False.elim z
      | some i, some n, hn =>
        refine codeAny_handlers_suite_as (HandSPX.lands_againZ fl3 fun h4 fl4 up4 => ?_)
        obtain ⟨o4, d4, z4, S4⟩ := land fl4 up4
        have y := yes rfl a na J.len
        rw [hz] at y
        refine store_ok (X := X.suite a ((a, o4) :: (X.pn ++ pins))) (v := .ref a) S4 nd hn.1 (.inl hn.2) rfl (fun s5 S5 => ?_) (.inr hn.2)
        refine wpAny_mono ((hbd a o4 cls d (X.pn ++ pins) z4 d4).run [] s5 _ H' _ S5 y) (fun f s6 q => ?_) fun _ _ z => False.elim z
        have gone : ∀ {σ6 : L2.St} {H6 : Hp} {Q : Shared → Prop}, Inv (X.suite a ((a, o4) :: (X.pn ++ pins))) [] σ6 H6 s6 → (∀ s7, Inv X pins (σ6.set i none) H6 s7 → Q s7) →
            wpAny (model X.prog X.w) X.A (do bindName X.env n .none; unbindBehindTheSuite X.env n sp) (fun _ s7 => Q s7) X.xe s6 := fun S6 k => gone_ok (S6.unsuite I.ok) nd hn.1 hn.2 k
        cases f with
        | ret u => obtain ⟨v, σ6, H6, S6, q6⟩ := q; exact gone S6 fun s7 J7 => ⟨v, _, H6, J7, q6⟩
        | next => obtain ⟨σ6, H6, S6, q6⟩ := q; exact gone S6 fun s7 J7 => ⟨_, H6, J7, q6⟩
        | brk => obtain ⟨σ6, H6, S6, q6⟩ := q; exact gone S6 fun s7 J7 => ⟨_, H6, J7, q6⟩
        | cont => obtain ⟨σ6, H6, S6, q6⟩ := q; exact gone S6 fun s7 J7 => ⟨_, H6, J7, q6⟩
      | none, some _, hn => exact False.elim hn
      | some _, none, hn => exact False.elim hn
end
end Ip

set_option Elab.async false
set_option linter.all false
set_option maxRecDepth 100000
set_option maxHeartbeats 4000000
namespace Ip
open PySem PySem.Spec PyProof.Rows L2

/-! ### the word for what a call raises -/
abbrev shT (z : Str) : Str := (PyData.tuple [.str z]).shown
section
variable {X : Cx}
theorem call_repr1 (hg : X.A.guards = some []) (hu : X.A.units + 10 < cLine) : CallR X (.builtin "repr") (fun xs H Q => ∃ (t : Addr) (z : Str), xs = [.ref t] ∧ H t = some (.tup [.str z]) ∧ (shT z).length ≤ sizeLine ∧ Q (.str (shT z)) H) := by
  intro pins s σ H xs us Q I r h
  obtain ⟨t, z, rfl, ht, hz, q⟩ := h
  obtain ⟨u, rfl, ru⟩ := vals1 r
  obtain rfl : u = Value.ref t := ru
  obtain ⟨its, rv, ⟨o, e, hc, n, hd⟩, _⟩ := I.tuple (SqT.of (K := X.K) ht)
  obtain ⟨w, rfl, tk, rfl⟩ := vals1 rv
  have rd : Reads s.heap (.ref t) (.tuple [.str z]) ([] ++ []) := Reads.tuple e hc hd (.cons (.str z tk) .nil)
  refine repr_of_reads' rd rfl (fun q => by cases q) hg (by simp [PyData.depth, PyData.depthAll]; omega) (fun _ _ e => e) (fun h' u tk hk => ?_) hz
  exact ⟨.str (shT z), H, I.kept hk, ⟨_, rfl⟩, q⟩
end
def glS (sg : Scope) (x : Str) : Bool := match sg.names.lookup x with
  | some .globalImplicit => true
  | _ => false
theorem glS_ok {sg : Scope} {x : Str} (h : glS sg x = true) : sg.names.lookup x = some .globalImplicit := by
  unfold glS at h
  split at h
  · assumption
  · cases h
def ndb (x : Str) : Bool := !(x == ("__debug__" : Str))
/-- one clause for each word -/
def mH (cn : List (Nat × Str)) (sg : Scope) (e : Str) : List (Nat × Str × Bool) → List ExceptHandler → Bool
  | [], hs => hs.isEmpty
  | (c, x, false) :: ws, hs => match hs with
    | .ExceptHandler (some (.Name n _)) none [.Return (some (.Constant (.str y) _ _)) _] _ :: hs => decide ((c, n) ∈ cn) && glS sg n && ndb n && decide (y = x) && mH cn sg e ws hs
    | _ => false
  | (c, x, true) :: ws, hs => match hs with
    | .ExceptHandler (some (.Name n _)) (some v) [.Return (some (.BinOp (.Constant (.str y) _ _) .Add (.Call (.Name r _) [.Attribute (.Name v' _) f _] [] _) _)) _] _ :: hs =>
      decide ((c, n) ∈ cn) && glS sg n && ndb n && decide (y = x) && decide (v = e) && decide (v' = e) && decide (r = "repr") && decide (f = "reason") && mH cn sg e ws hs
    | _ => false
/-- the word function as it stands: try: a() / except ..: return .. / return fine -/
def mW (cn : List (Nat × Str)) (sg : Scope) (a e : Str) (ws : List (Nat × Str × Bool)) (fine : Str) : List Stmt → Bool
  | [.Try [.Expr (.Call (.Name a' _) [] [] _) _] (h :: hs) [] [] _, .Return (some (.Constant (.str y) _ _)) _] => decide (a' = a) && decide (y = fine) && mH cn sg e ws (h :: hs)
  | _ => false
/-- what is known of the classes -/
structure WordK (L : Lw) (cn : List (Nat × Str)) (ws : List (Nat × Str × Bool)) : Prop where
  mg : ∀ q ∈ cn, L.mg q.2 = some (.ref (L.ca q.1))
  exm : ∀ p ∈ ws, ∀ r ∈ ws, PySem.W.exmOne L.K (.ref (L.ca p.1)) (.ref (L.ca r.1)) = some (Nat.beq r.1 p.1)
  pay : ∀ p ∈ ws, p.2.2 = true → XfC L.K (L.ca p.1) ∧ PySem.W.findIn L.K (.ref (L.ca p.1)) "reason" = some none ∧ L.xf p.1 = "reason"
  rp : L.mg "repr" = none
def wExc (L : Lw) (ws : List (Nat × Str × Bool)) (Q : VK) : XK := fun cls d H => ∃ ρ c p x, ExcR L ρ H c p cls d ∧ wordA ws c p = some x ∧ Q (.str x) H
def TTw (L : Lw) (ws : List (Nat × Str × Bool)) (fine : Str) : (XK → Hp → VK → Prop) → Hp → VK → Prop := fun tl H Q => tl (wExc L ws Q) H (fun _ H' => Q (.str fine) H')
/-- what a clause asks -/
def clzT (L : Lw) (c : Nat) (x : Str) : Bool → Addr → Value → Option Addr → TS
  | false => fun _ _ _ D _ H => D.rt (.str x) H
  | true => fun a cls d D σ H => σ[1]? = some (some (.ref a)) ∧ cls = .ref (L.ca c) ∧ ∃ (dd t : Addr) (z : Str), d = some dd ∧ H dd = some (.xd [("reason", .ref t)]) ∧ H t = some (.tup [.str z]) ∧
      (shT z).length ≤ sizeLine ∧ x.length + (shT z).length ≤ sizeLine ∧ D.rt (.str (x ++ shT z)) H
def clz (L : Lw) : Nat × Str × Bool → Clz := fun p => (.ref (L.ca p.1), if p.2.2 then some 1 else none, clzT L p.1 p.2.1 p.2.2)
section
variable {L : Lw} {cn : List (Nat × Str)} {Z : Cx} {sg : Scope} {e : Str}
def PayN (N : List Str) (sg : Scope) (e : Str) : Prop := N[1]? = some e ∧ sg.names.lookup e = some .local ∧ (e == ("__debug__" : Str)) = false ∧ (e == ("__classdict__" : Str)) = false ∧ sg.names.lookup ("repr" : Str) = some .globalImplicit
theorem hdz_of (hK : Z.K = L.K) (hmg : Z.mg = L.mg) (hsc : Z.env.scope = sg) (hgu : Z.A.guards = some []) (hu : Z.A.units + 10 < cLine) :
    ∀ {ws : List (Nat × Str × Bool)} {hs : List ExceptHandler}, (∀ p ∈ ws, p.2.2 = true → PayN Z.N sg e) → WordK L cn ws → mH cn sg e ws hs = true → Hdz Z hs (ws.map (clz L))
  | [], hs, _, _, h => by
    unfold mH at h
    rw [List.isEmpty_iff] at h
    subst h
    exact .nil
  | (c, x, false) :: ws, hs, hr, W, h => by
    unfold mH at h
    split at h
    · rename_i n np y j p1 p2 p3 hs
      simp only [Bool.and_eq_true, decide_eq_true_eq] at h
      obtain ⟨⟨⟨⟨h1, h2⟩, h3⟩, h4⟩, h5⟩ := h
      subst h4
      have W' : WordK L cn ws := ⟨W.mg, fun p hp r hr => W.exm p (.tail _ hp) r (.tail _ hr), fun p hp => W.pay p (.tail _ hp), W.rp⟩
      refine .cons (z := clz L (c, y, false)) ⟨by show Z.env.scope.names.lookup n = _; rw [hsc]; exact glS_ok h2, by simpa [ndb] using h3, .inl (by rw [hmg]; exact W.mg _ h1)⟩ trivial (fun a o cls d pn _ _ => ?_) (hdz_of hK hmg hsc hgu hu (fun p hp => hr p (.tail _ hp)) W' h5)
      exact pss_one (ps_ret pe_str)
    · cases h
  | (c, x, true) :: ws, hs, hr, W, h => by
    unfold mH at h
    split at h
    · rename_i n np v y j p1 r p2 v' p3 f p4 p5 p6 p7 p8 hs
      simp only [Bool.and_eq_true, decide_eq_true_eq] at h
      obtain ⟨⟨⟨⟨⟨⟨⟨⟨h1, h2⟩, h3⟩, h4⟩, h6⟩, h7⟩, h8⟩, h9⟩, h5⟩ := h
      have h6 := h6.symm
      have h7 := h7.symm
      subst h4 h6 h7 h8 h9
      have W' : WordK L cn ws := ⟨W.mg, fun p hp r hr => W.exm p (.tail _ hp) r (.tail _ hr), fun p hp => W.pay p (.tail _ hp), W.rp⟩
      obtain ⟨T, hno, hxf⟩ := W.pay _ (.head _) rfl
      obtain ⟨hN, hle, hv1, hv2, hgr⟩ := hr _ (.head _) rfl
      refine .cons (z := clz L (c, y, true)) ⟨by show Z.env.scope.names.lookup n = _; rw [hsc]; exact glS_ok h2, by simpa [ndb] using h3, .inl (by rw [hmg]; exact W.mg _ h1)⟩ ⟨hN, by show Z.env.scope.names.lookup e = _; rw [hsc]; exact hle⟩ (fun a o cls d pn hz hf => ?_) (hdz_of hK hmg hsc hgu hu (fun p hp => hr p (.tail _ hp)) W' h5)
      have pv1 : PE (Z.suite a ((a, o) :: pn)) (.Name e p3) (tVar 1) := pe_var (i := 1) hN (.inl (by show Z.env.scope.names.lookup e = _; rw [hsc]; exact hle)) hv1 hv2
      have T' : XfC Z.K (L.ca c) := by rw [hK]; exact T
      have hno' : PySem.W.findIn Z.K (.ref (L.ca c)) "reason" = some none := by rw [hK]; exact hno
      have pr := pe_callB (X := Z.suite a ((a, o) :: pn)) (p := p2) (pos := p5) (call_repr1 (X := Z.suite a ((a, o) :: pn)) hgu hu) (by show Z.env.scope.names.lookup ("repr" : Str) = _; rw [hsc]; exact hgr) (by show Z.mg "repr" = none; rw [hmg]; exact W.rp) (PyProof.Rows.bootS_repr) (pa_cons (pe_xf (pos := p4) T' hno' hz hf pv1) pa_nil)
      refine pss_one ⟨fun pins s σ H D I q => (ps_ret (pe_op op_add_str pe_str pr)).run pins s σ H D I ?_⟩
      obtain ⟨q1, q2, dd, t, z, q3, q4, q5, q6, q7, q8⟩ := q
      exact ⟨.ref a, q1, rfl, q2, dd, _, .ref t, q3, q4, by simp, t, z, rfl, q5, q6, y, shT z, rfl, rfl, q7, q8⟩
    · cases h
theorem word_of {ws : List (Nat × Str × Bool)} {m : Nat} {D : Ends} {Q : VK} {ρ : List Addr} {c : Nat} {p : List Vl} {cls : Value} {d : Option Addr} {H : Hp} {x : Str} {σ : L2.St} (hrt : D.rt = Q) (hm : 2 ≤ m ∨ ∀ p ∈ ws, p.2.2 = false) (W : WordK L cn ws) :
    ∀ {us : List (Nat × Str × Bool)}, (∀ p ∈ us, p ∈ ws) → c ∈ ws.map (·.1) → ExcR L ρ H c p cls d → wordA us c p = some x → Q (.str x) H → wMix L.K m D (us.map (clz L)) cls d σ H
  | [], _, _, _, h, _ => by cases h
  | (k, y, b) :: us, hs, hc, hE, h, hQ => by
    unfold wordA at h
    obtain ⟨r, hr, e⟩ := List.mem_map.mp hc
    have ex := W.exm r hr (k, y, b) (hs _ (.head _))
    rw [e, ← hE.1] at ex
    refine ⟨Nat.beq k c, ex, fun hb a na hl => ?_, fun hb => ?_⟩
    · rw [if_pos hb] at h
      have hkc := Nat.eq_of_beq_eq_true hb
      subst hkc
      split at h
      · cases h
        show (unD none D).rt (.str x) H
        rw [← hrt] at hQ
        exact hQ
      · rename_i z
        split at h
        · rename_i hz
          rw [Bool.and_eq_true] at hz
          have z1 := Nat.le_of_ble_eq_true hz.1
          have z2 := Nat.le_of_ble_eq_true hz.2
          cases h
          obtain ⟨_, _, hxf⟩ := W.pay _ (hs _ (.head _)) rfl
          obtain ⟨dd, v, e1, e2, rv⟩ := hE.2
          cases rv with
          | tup ht rs =>
            cases rs with
            | cons r1 r2 =>
              cases r1
              cases r2
              have h2 : 2 ≤ m := by
                rcases hm with hm | hm
                · exact hm
                · have := hm _ (hs _ (.head _))
                  cases this
              have hsl : sizeLine = 16777216 := sizeLine_eq
              rw [hxf] at e2
              refine ⟨?_, hE.1, dd, _, z, e1, e2, ht, by show (PyData.tuple [.str z]).shown.length ≤ sizeLine; omega, by show y.length + (PyData.tuple [.str z]).shown.length ≤ sizeLine; omega, ?_⟩
              · show (σ.set 1 (some (.ref a)))[1]? = some (some (.ref a))
                rw [List.getElem?_set_self (by omega)]
              · rw [← hrt] at hQ
                exact hQ
        · cases h
      · cases h
    · rw [if_neg (by rw [hb]; decide)] at h
      exact word_of hrt hm W (fun p hp => hs p (.tail _ hp)) hc hE h hQ
theorem wordA_mem {c : Nat} {p : List Vl} {x : Str} : ∀ {us : List (Nat × Str × Bool)}, wordA us c p = some x → c ∈ us.map (·.1)
  | [], h => by cases h
  | (k, y, b) :: us, h => by
    unfold wordA at h
    split at h
    · rename_i hb
      rw [List.map_cons, Nat.eq_of_beq_eq_true hb]
      exact .head _
    · exact .tail _ (wordA_mem h)
theorem gives_w {X : Cx} {Ng : List Str} {x a q fine : Str} {g : Addr} {cdg : Value} {bg : List Stmt} {ws : List (Nat × Str × Bool)} (hK : X.K = L.K) (hmg : X.mg = L.mg) (hgu : X.A.guards = some []) (hu : X.A.units + 20 < cLine)
    (hNd : Ng.Nodup) (hm : (ws.all fun p => !p.2.2) = true ∨ PayN Ng sg e) (W : WordK L cn ws) (hw : mW cn sg a e ws fine bg = true) : LamX.GivesTo X Ng x sg g cdg bg a q (TTw L ws fine) := by
  intro f c' s H Q tl act hc h
  unfold mW at hw
  split at hw
  · rename_i a' p1 p2 p3 h1 hs p4 y j p5 p6
    simp only [Bool.and_eq_true, decide_eq_true_eq] at hw
    obtain ⟨⟨w1, w2⟩, w3⟩ := hw
    subst w1 w2
    have hpay : ∀ p ∈ ws, p.2.2 = true → PayN Ng sg e := fun p hp hb => by
      rcases hm with hm | hm
      · have := List.all_eq_true.mp hm p hp
        rw [hb] at this
        cases this
      · exact hm
    have hz := hdz_of (Z := (cxOf C8.CX0 X.prog X.w X.K X.mg X.base Ng x sg g cdg X.A X.stack s H C8.E0).nox) hK hmg rfl hgu (by show X.A.units + 3 + 10 < cLine; omega) hpay W w3
    refine ⟨_, pss_cons (ps_try_mix (X := (cxOf C8.CX0 X.prog X.w X.K X.mg X.base Ng x sg g cdg X.A X.stack s H C8.E0).nox)
      (tb := fun W D σ H => ∃ Ech : XK, (∀ cls d σ' H', Ech cls d H' → W cls d σ' H') ∧ σ[0]? = some (some (.ref f)) ∧ H c' = some (LamX.CodeO c' q) ∧ tl Ech H (fun _ H' => D.nx σ H'))
      rfl rfl hNd (fun W pn xe tk => ⟨fun pins s' σ H' D I h' => ?_⟩) hz) (pss_one (ps_ret pe_str)), ?_⟩
    · obtain ⟨Ech, hW, k1, k2, k3⟩ := h'
      exact (pss_one (ps_expr (act W pn xe Ech p1 p2 tk hW))).run pins s' σ H' D I ⟨k1, k2, k3⟩
    · have h : tl (wExc L ws Q) H (fun _ H' => Q (.str y) H') := h
      refine ⟨wExc L ws Q, fun cls d σ' H' hE => ?_, rfl, hc, h⟩
      obtain ⟨ρ, c, p, x, e1, e2, e3⟩ := hE
      show wMix X.K _ _ _ _ _ _ _
      rw [hK]
      refine word_of (Q := Q) rfl ?_ W (fun p hp => hp) (wordA_mem e2) e1 e2 e3
      rcases hm with hm | hm
      · exact .inr fun p hp => by
          have := List.all_eq_true.mp hm p hp
          cases hb : p.2.2
          · rfl
          · rw [hb] at this; cases this
      · left
        exact (List.getElem?_eq_some_iff.mp hm.1).1
  · cases hw
end
end Ip

set_option Elab.async false
set_option linter.all false
set_option maxRecDepth 100000
set_option maxHeartbeats 4000000
namespace Ip
open PySem PySem.Spec PyProof.Rows L2

/-! ### what the text must look like -/
structure Ct where
  N : List Str
  sc : Scope
  fn : Str → Bool
  T : List Fn
  gc : List (Str × Vl)
  fb : List Str
  sn : List (Nat × List Str)
  mt : List (Nat × Str × Nat)
  cl : List (Nat × Str × Nat)
  xp : List (Nat × Str) := []
  ws : List (Nat × Str × Bool) := []
  wn : Str := ""
  wf : Str := ""
  gd : Bool := false
def Ct.lamC (C : Ct) (scope : Scope) : Ct := { C with sc := scope, fn := fun _ => false, gd := false }
/-- the function f bears the name x -/
def fnB (C : Ct) (f : Nat) (x : Str) (g : Bool) : Bool := match C.T[f]? with
  | some F => decide (F.name = x) && F.glo && (F.gd == g)
  | none => false
def plB (C : Ct) (f : Nat) : Bool := match C.T[f]? with
  | some F => !F.gd
  | none => false
def noPar : Arguments → Bool
  | ⟨[], [], none, [], [], none, []⟩ => true
  | _ => false
def Ct.blk (C : Ct) (scope : Scope) : Ct := { C with sc := relS scope C.sc, fn := fun x => scope.names.lookup x == some .cell }
def nst : Expr → Bool
  | .Starred .. => false
  | _ => true
def nsup : Expr → Bool
  | .Call (.Name id _) [] [] _ => !decide (id = "super")
  | _ => true
def nset : Expr → Bool
  | .Set .. => false
  | _ => true
def nsl : Expr → Bool
  | .Slice .. => false
  | _ => true
def plainT : Expr → Bool
  | .UnaryOp .Not _ _ => false
  | .BoolOp .. => false
  | .IfExp .. => false
  | .Compare .. => false
  | _ => true
def visB (sc : Scope) (x : Str) : Bool := match sc.names.lookup x with
  | some .local => true
  | some .cell => true
  | some .free => true
  | _ => false
def glB (sc : Scope) (x : Str) : Bool := match sc.names.lookup x with
  | some .globalImplicit => true
  | _ => false
def locB (C : Ct) (x : Str) : Bool := match C.sc.names.lookup x with
  | some .local => true
  | some .cell => C.fn x
  | _ => false
def nmB (x : Str) : Bool := !(x == ("__debug__" : Str)) && !(x == ("__classdict__" : Str))
def bltN : Blt → Str
  | .len => "len" | .tuple => "tuple" | .list => "list" | .sorted => "sorted" | .sum => "sum" | .abs => "abs" | .max2 => "max" | .min2 => "min" | .all => "all" | .any => "any" | .int => "int" | .rng1 => "range" | .rng2 => "range"
def bltI : Blt → Bool × String
  | .len => (true, "len") | .tuple => (false, "tuple") | .list => (false, "list") | .sorted => (true, "sorted") | .sum => (true, "sum") | .abs => (true, "abs") | .max2 => (true, "max") | .min2 => (true, "min") | .all => (true, "all") | .any => (true, "any") | .int => (false, "int") | .rng1 => (false, "range") | .rng2 => (false, "range")
def freeB (C : Ct) (x : Str) : Bool := glB C.sc x && decide (x ∈ C.fb)
def mthN : Mth → Str
  | .append => "append" | .extend => "extend" | .pop => "pop" | .get => "get" | .dpop => "pop" | .setd => "setdefault"
def tyN : Ty → Str
  | .int => "int" | .bool => "bool" | .str => "str" | .tuple => "tuple" | .list => "list" | .dict => "dict"
def ownOf (N : List Str) (own : List Nat) : List (Str × Nat) := own.filterMap fun i => N[i]?.map fun x => (x, i)
mutual
def mE (C : Ct) : Ex → Expr → Bool
  | .dead, _ => true
  | .var i, e => match e with
    | .Name x _ => decide (C.N[i]? = some x) && visB C.sc x && nmB x
    | _ => false
  | .int i, e => match e with
    | .Constant (.int j) _ _ => decide (j = i)
    | _ => false
  | .str x, e => match e with
    | .Constant (.str y) _ _ => decide (y = x)
    | _ => false
  | .bl b, e => match e with
    | .Constant (.bool c) _ _ => decide (c = b)
    | _ => false
  | .non, e => match e with
    | .Constant .none _ _ => true
    | _ => false
  | .glob x v, e => match e with
    | .Name y _ => decide (y = x) && glB C.sc x && nmB x && C.gc.any fun p => decide (p.1 = x) && eqb p.2 v
    | _ => false
  | .fnv f, e => match e with
    | .Name y _ => glB C.sc y && nmB y && (match C.T[f]? with
      | some F => decide (F.name = y) && F.glo
      | none => false)
    | _ => false
  | .tup es, e => match e with
    | .Tuple xs _ _ => mEs C es xs
    | _ => false
  | .lst es, e => match e with
    | .List xs _ => mEs C es xs
    | _ => false
  | .dK, e => match e with
    | .Dict [] [] _ => true
    | _ => false
  | .dT, e => match e with
    | .Dict [] [] _ => true
    | _ => false
  | .bin op a b, e => match e with
    | .BinOp x o y _ => decide (o = opOf op) && mE C a x && mE C b y
    | _ => false
  | .neg a, e => match e with
    | .UnaryOp .USub x _ => mE C a x
    | _ => false
  | .cmp op a b, e => match e with
    | .Compare x [o] [y] _ => decide (o = cmpOf op) && !behindInMarks o y && mE C a x && mE C b y
    | _ => false
  | .chn p q a b c, e => match e with
    | .Compare x [o, o'] [y, z] _ => decide (o = cmpOf p) && decide (o' = cmpOf q) && !lastMarks [o, o'] [y, z] && mE C a x && mE C b y && mE C c z
    | _ => false
  | .and_ a b, e => match e with
    | .BoolOp .And (x :: y :: []) _ => mE C a x && mE C b y
    | .BoolOp .And (x :: y :: z :: r) p => mE C a x && mE C b (.BoolOp .And (y :: z :: r) p)
    | _ => false
  | .or_ a b, e => match e with
    | .BoolOp .Or (x :: y :: []) _ => mE C a x && mE C b y
    | .BoolOp .Or (x :: y :: z :: r) p => mE C a x && mE C b (.BoolOp .Or (y :: z :: r) p)
    | _ => false
  | .not_ a, e => match e with
    | .UnaryOp .Not x _ => mE C a x
    | _ => false
  | .ite_ c a b, e => match e with
    | .IfExp z x y _ => mB C c z && mE C a x && mE C b y
    | _ => false
  | .isi a t, e => match e with
    | .Call (.Name f _) (x :: .Name g _ :: []) [] _ => decide (f = "isinstance") && decide (g = tyN t) && freeB C f && freeB C g && nst x && mE C a x
    | _ => false
  | .call f es, e => match e with
    | .Call (.Name x _) (y :: ys) [] _ => glB C.sc x && nmB x && nst y && ys.all nst && mEs C es (y :: ys) && fnB C f x false
    | .Call (.Name x _) [] [] _ => glB C.sc x && nmB x && mEs C es [] && fnB C f x false
    | _ => false
  | .blt b es, e => match e with
    | .Call (.Name x _) (y :: ys) [] _ => decide (x = bltN b) && freeB C x && nst y && ys.all nst && mEs C es (y :: ys)
    | _ => false
  | .mth m o es, e => match e with
    | .Call (.Attribute x a apos) [] [] cpos => decide (a = mthN m) && nsup x && (apos.endLine == cpos.line) && mE C o x && mEs C es []
    | .Call (.Attribute x a apos) (y :: ys) [] cpos => decide (a = mthN m) && nsup x && (apos.endLine == cpos.line) && nst y && ys.all nst && decide (ys.length < 28) && mE C o x && mEs C es (y :: ys)
    | _ => false
  | .ix a i, e => match e with
    | .Subscript x y _ => nsl y && mE C a x && mE C i y
    | _ => false
  | .slc a lo hi, e => match e with
    | .Subscript x (.Slice l h none _) _ => mE C a x && mO C lo l && mO C hi h
    | _ => false
  | .rvs a, e => match e with
    | .Subscript x (.Slice none none (some (.UnaryOp .USub (.Constant (.int 1) _ _) _)) _) _ => mE C a x
    | _ => false
  | .lc own tg it ifs el, e => match e with
    | .ListComp y [⟨t, i, fs, 0⟩] scope _ => blkC C.N C.sc scope (ownOf C.N own) && decide ((ownOf C.N own).map (·.2) = own) && nset i && mI C it t i && mT (C.blk scope) own tg t && mF (C.blk scope) ifs fs && mE (C.blk scope) el y
    | _ => false
  | .lc2 own own1 tg it ifs tg1 it1 ifs1 el, e => match e with
    | .ListComp y [⟨t, i, fs, 0⟩, ⟨t1, i1, fs1, 0⟩] scope _ => blkC C.N C.sc scope (ownOf C.N own) && decide ((ownOf C.N own).map (·.2) = own) && (own1.all fun i => decide (i ∈ own)) && nset i && nset i1 && mI C it t i && mT (C.blk scope) own tg t && mF (C.blk scope) ifs fs && mI (C.blk scope) it1 t1 i1 && mT (C.blk scope) own1 tg1 t1 && mF (C.blk scope) ifs1 fs1 && mE (C.blk scope) el y
    | _ => false
  | .dc tb own tg it ifs k v, e => match e with
    | .DictComp y z [⟨t, i, fs, 0⟩] scope _ => blkC C.N C.sc scope (ownOf C.N own) && decide ((ownOf C.N own).map (·.2) = own) && nset i && mI C it t i && mT (C.blk scope) own tg t && mF (C.blk scope) ifs fs && mE (C.blk scope) k y && mE (C.blk scope) v z
    | _ => false
  | .dc2 tb own own1 tg it ifs tg1 it1 ifs1 k v, e => match e with
    | .DictComp y z [⟨t, i, fs, 0⟩, ⟨t1, i1, fs1, 0⟩] scope _ => blkC C.N C.sc scope (ownOf C.N own) && decide ((ownOf C.N own).map (·.2) = own) && (own1.all fun i => decide (i ∈ own)) && nset i && nset i1 && mI C it t i && mT (C.blk scope) own tg t && mF (C.blk scope) ifs fs && mI (C.blk scope) it1 t1 i1 && mT (C.blk scope) own1 tg1 t1 && mF (C.blk scope) ifs1 fs1 && mE (C.blk scope) k y && mE (C.blk scope) v z
    | _ => false
  | .srtI o, e => match e with
    | .Call (.Name f _) [.Call (.Attribute x a apos) [] [] cpos] [] _ => decide (f = "sorted") && decide (a = "items") && freeB C f && nsup x && (apos.endLine == cpos.line) && mE C o x
    | _ => false
  | .fld tb f o, e => match e with
    | .Attribute x a _ => decide (a = f) && nsup x && (tb.all fun q => C.sn.any fun r => r.1 == q.1 && decide (r.2[q.2]? = some f)) && mE C o x
    | _ => false
  | .mcl c f m o es, e => match e with
    | .Call (.Attribute x a apos) [] [] cpos => decide (a = m) && nsup x && (apos.endLine == cpos.line) && decide ((c, m, f) ∈ C.mt) && plB C f && mE C o x && mEs C es []
    | .Call (.Attribute x a apos) (y :: ys) [] cpos => decide (a = m) && nsup x && (apos.endLine == cpos.line) && nst y && ys.all nst && decide (ys.length < 28) && decide ((c, m, f) ∈ C.mt) && plB C f && mE C o x && mEs C es (y :: ys)
    | _ => false
  | .new c f es, e => match e with
    | .Call (.Name x _) (y :: ys) [] _ => glB C.sc x && nmB x && nst y && ys.all nst && decide ((c, x, f) ∈ C.cl) && plB C f && mEs C es (y :: ys)
    | _ => false
  | .callF f es, e => match e with
    | .Call (.Name x _) (y :: ys) [] _ => glB C.sc x && nmB x && nst y && ys.all nst && mEs C es (y :: ys) && fnB C f x false
    | _ => false
  | .calF m i es, e => match e with
    | .Call (.Name x _) (y :: ys) [] _ => decide (C.N[i]? = some x) && visB C.sc x && nmB x && nst y && ys.all nst && mEs C es (y :: ys) && Nat.ble m C.T.length && (C.T.take m).all fun F => !F.gd
    | _ => false
  | .callG fr f es, e => match e with
    | .Call (.Name x _) (y :: ys) [] _ => C.gd && glB C.sc x && nmB x && nst y && ys.all nst && mEs C es (y :: ys) && fnB C f x true
    | _ => false
  | .wrd ws fine a, e => match e with
    | .Call (.Name x _) [.Lambda params body scope _] [] _ => C.gd && decide (x = C.wn) && glB C.sc x && nmB x && noPar params && LamX.lamSB C.sc scope && decide (ws = C.ws) && decide (fine = C.wf) && mE (C.lamC scope) a body
    | _ => false
def mEs (C : Ct) : Exs → List Expr → Bool
  | .nil, es => es.isEmpty
  | .cons x xs, es => match es with
    | e :: es => nst e && mE C x e && mEs C xs es
    | [] => false
def mO (C : Ct) : Oe → Option Expr → Bool
  | .non, o => o.isNone
  | .som x, o => match o with
    | some e => mE C x e
    | none => false
def mB (C : Ct) : Te → Expr → Bool
  | .val a, e => plainT e && mE C a e
  | .cmp op a b, e => match e with
    | .Compare x [o] [y] _ => decide (o = cmpOf op) && !behindInMarks o y && mE C a x && mE C b y
    | _ => false
  | .chn p q a b c, e => match e with
    | .Compare x [o, o'] [y, z] _ => decide (o = cmpOf p) && decide (o' = cmpOf q) && !lastMarks [o, o'] [y, z] && mE C a x && mE C b y && mE C c z
    | _ => false
  | .and_ a b, e => match e with
    | .BoolOp .And (x :: y :: []) _ => mB C a x && mB C b y
    | .BoolOp .And (x :: y :: z :: r) p => mB C a x && mB C b (.BoolOp .And (y :: z :: r) p)
    | _ => false
  | .or_ a b, e => match e with
    | .BoolOp .Or (x :: y :: []) _ => mB C a x && mB C b y
    | .BoolOp .Or (x :: y :: z :: r) p => mB C a x && mB C b (.BoolOp .Or (y :: z :: r) p)
    | _ => false
  | .not_ a, e => match e with
    | .UnaryOp .Not x _ => mB C a x
    | _ => false
def mF (C : Ct) : Ot → List Expr → Bool
  | .non, fs => fs.isEmpty
  | .som a, fs => match fs with
    | [e] => mB C a e
    | _ => false
def mI (C : Ct) : Itr → Expr → Expr → Bool
  | .vals a, _, e => mE C a e
  | .rng1 a, _, e => match e with
    | .Call (.Name f _) [x] [] _ => decide (f = "range") && freeB C f && nst x && mE C a x
    | _ => false
  | .rng2 a b, _, e => match e with
    | .Call (.Name f _) [x, y] [] _ => decide (f = "range") && freeB C f && nst x && nst y && mE C a x && mE C b y
    | _ => false
  | .enm a, t, e => match t with
    | .Tuple _ _ _ => match e with
      | .Call (.Name f _) [x] [] _ => decide (f = "enumerate") && freeB C f && nst x && mE C a x
      | _ => false
    | _ => false
  | .zip a b, t, e => match t with
    | .Tuple _ _ _ => match e with
      | .Call (.Name f _) [x, y] [] _ => decide (f = "zip") && freeB C f && nst x && nst y && mE C a x && mE C b y
      | _ => false
    | _ => false
def mT (C : Ct) (vs : List Nat) : Tg → Expr → Bool
  | .name i, e => match e with
    | .Name x _ => decide (C.N[i]? = some x) && locB C x && decide (i ∈ vs)
    | _ => false
  | .tup ts, e => match e with
    | .Tuple es _ _ => mTs C vs ts es
    | _ => false
  | .sub o i, e => match e with
    | .Subscript x y _ => nsl y && mE C o x && mE C i y
    | _ => false
  | .fld tb f o, e => match e with
    | .Attribute x a _ => decide (a = f) && nsup x && (tb.all fun q => C.sn.any fun r => r.1 == q.1 && decide (r.2[q.2]? = some f)) && mE C o x
    | _ => false
def mTs (C : Ct) (vs : List Nat) : Tgs → List Expr → Bool
  | .nil, es => es.isEmpty
  | .cons t ts, es => match es with
    | e :: es => nst e && mT C vs t e && mTs C vs ts es
    | [] => false
end
/-! the side conditions -/
theorem star_ok {e : Expr} {es : List Expr} {env : Env} (h : nst e = true) : starEach (e :: es) env = (false, eval e env) :: starEach es env := by
  cases e <;> first | rfl | cases h
theorem stars_any {pos : Pos} {env : Env} : ∀ {es : List Expr}, es.all nst = true → (backTo pos (starEach es env)).any (·.1) = false
  | [], _ => rfl
  | e :: es, h => by
    rw [List.all_cons, Bool.and_eq_true] at h
    rw [star_ok h.1]
    show (false || (backTo pos (starEach es env)).any (·.1)) = false
    rw [stars_any h.2]; rfl
theorem stars_all {pos : Pos} {env : Env} : ∀ {es : List Expr}, es.all nst = true → (backTo pos (starEach es env)).all (fun x => !x.1) = true
  | [], _ => rfl
  | e :: es, h => by
    rw [List.all_cons, Bool.and_eq_true] at h
    rw [star_ok h.1]
    show (!false && (backTo pos (starEach es env)).all (fun x => !x.1)) = true
    rw [stars_all h.2]; rfl
theorem few_ok {cpos : Pos} {env : Env} {e : Expr} {es : List Expr} (h : nst e = true) (h2 : es.all nst = true) (h3 : es.length < 28) :
    ((backTo cpos (starEach (e :: es) env)).all (fun x => !x.1) && (backToKw cpos (keywordEach [] env)).all (fun x => x.1.isSome)
      && decide ((e :: es).length + ([] : List Keyword).length + (if ([] : List Keyword).isEmpty then 0 else 1) < 30)) = true := by
  rw [stars_all (by rw [List.all_cons, h, h2]; rfl)]
  have : (e :: es).length + ([] : List Keyword).length + (if ([] : List Keyword).isEmpty then 0 else 1) < 30 := by
    simp only [List.length_cons, List.length_nil, List.isEmpty_nil, if_true]
    omega
  rw [decide_eq_true this]
  rfl
theorem base_ok {o : Expr} {a : Str} {env : Env} {whole : Sem Value} (h : nsup o = true) : attributeBase o a env whole = whole := by
  unfold attributeBase
  split
  · rename_i id _ _
    have : (id != "super") = true := by
      simp only [nsup, Bool.not_eq_true', decide_eq_false_iff_not] at h
      exact bne_iff_ne.mpr h
    simp [this]
  · rfl
theorem meth_ht {o : Expr} {m : Str} {apos pos : Pos} {args : List Expr} {env : Env} (h1 : nsup o = true) (h2 : methodCallForm (args.length + ([] : List Keyword).length) (backTo pos (starEach args env)) (backToKw pos (keywordEach [] env)) = true) (h3 : (apos.endLine == pos.line) = true) :
    eval (.Call (.Attribute o m apos) args [] pos) env = (do
      let ov ← eval o env
      standAt apos.atName
      let (f, first) ← holding [ov] (getMethod ov m (do return (← importBound o env).getD true))
      callWith pos f first (backTo pos (starEach args env)) (backToKw pos (keywordEach [] env))) := by
  show (do
    let ov ← attributeBase o m env (eval o env)
    standAt apos.atName
    methodCall o m apos pos env ov (args.length + ([] : List Keyword).length) (backTo pos (starEach args env)) (backToKw pos (keywordEach [] env))) = _
  rw [base_ok h1]
  unfold methodCall calleeOf methodCallPos
  rw [h2, h3]
  rfl
theorem fold_ok {i : Expr} {env : Env} (h : nset i = true) : ∀ x, foldedSetIterable i env x = pure x := fun x => by
  cases i <;> first | rfl | cases h
theorem fold_okE {i : Expr} (h : nset i = true) : ∀ (env : Env) x, foldedSetIterable i env x = pure x := fun env x => by
  cases i <;> first | rfl | cases h
theorem plix_ok {y : Expr} (h : nsl y = true) : PlainIx y := fun o i => by
  cases y <;> first | rfl | cases h
theorem plainT_ok {e : Expr} {env : Env} (h : plainT e = true) : ∀ whole, isTrue e env whole = (do let v ← whole; standAt e.pos; holding [v] (truthy v)) := fun whole => by
  cases e with
  | UnaryOp op x p => cases op <;> first | rfl | cases h
  | _ => first | rfl | cases h
theorem asgs_len {env : Env} : ∀ {es : List Expr}, (assignEach es env).length = es.length
  | [] => rfl
  | e :: es => by
    have : (assignEach (e :: es) env).length = (assignEach es env).length + 1 := by cases e <;> rfl
    rw [this, asgs_len]; rfl
theorem asgs_cons {e : Expr} {es : List Expr} {env : Env} (h : nst e = true) : assignEach (e :: es) env = (false, assign e env) :: assignEach es env := by
  cases e <;> first | rfl | cases h
theorem asgs_find {env : Env} : ∀ {es : List Expr}, es.all nst = true → (assignEach es env).findIdx? (·.1) = none
  | [], _ => rfl
  | e :: es, h => by
    rw [List.all_cons, Bool.and_eq_true] at h
    rw [asgs_cons h.1, List.findIdx?_cons]
    simp [asgs_find h.2]
theorem asub_ok {o i : Expr} {pos : Pos} {env : Env} (h : nsl i = true) : ∀ v, assign (.Subscript o i pos) env v = (do
      let ov ← holding [v] (eval o env)
      let iv ← holding [v, ov] (eval i env)
      standAt pos
      holding [v, ov, iv] (setItem ov iv v)
      release [v, ov, iv] []) := fun v => by
  cases i <;> first | rfl | cases h
theorem vis_ok {sc : Scope} {x : Str} (h : visB sc x = true) : Vis sc x := by
  unfold visB at h
  split at h <;> first | exact .inl (by assumption) | exact .inr (.inl (by assumption)) | exact .inr (.inr (by assumption)) | cases h
theorem gl_ok {C : Ct} {X : Cx} {x : Str} (hs : X.env.scope = C.sc) (h : glB C.sc x = true) : Gl X x := by
  unfold glB at h
  split at h
  · rename_i q
    show X.env.scope.names.lookup x = some .globalImplicit
    rw [hs]; exact q
  · cases h
theorem nm_ok {x : Str} (h : nmB x = true) : (x == ("__debug__" : Str)) = false ∧ (x == ("__classdict__" : Str)) = false := by
  unfold nmB at h
  simpa using h
end Ip

set_option Elab.async false
set_option linter.all false
set_option maxRecDepth 100000
set_option maxHeartbeats 4000000
namespace Ip
open PySem PySem.Spec PyProof.Rows L2

/-! ### expressions -/
/-- what is known of the word function -/
structure Wf (L : Lw) (wn : Str) (ws : List (Nat × Str × Bool)) (fine : Str) : Prop where
  ex : ∃ (g : Addr) (oc dV kV doc pm cdv ct : Value) (od an : Option Addr) (osl : Array (Option Value)) (pg : Arguments) (bg : List Stmt) (sg : Scope) (Ng : List Str) (a e : Str) (cn : List (Nat × Str)),
    L.mg wn = some (.ref g) ∧ PySem.W.keepIn L.K (.ref g) = true ∧ L.K.lookup g = some ⟨oc, od, .func (PySem.W.fnOf wn wn pg bg sg dV kV doc pm an cdv ct), osl⟩ ∧ PySem.W.codeIn L.K cdv wn = true ∧
      L2.Binds L.K (PySem.W.fnOf wn wn pg bg sg dV kV doc pm an cdv ct) [a] [] ∧ FnScope Ng [a] sg ∧ Ng[0]? = some a ∧ Vis sg a ∧ nmB a = true ∧ ((ws.all fun p => !p.2.2) = true ∨ PayN Ng sg e) ∧ WordK L cn ws ∧ mW cn sg a e ws fine bg = true
/-- one stands where no text is being shown, and lambdas may be made -/
structure Gdx (C : Ct) (L : Lw) (n : Nat) (X : Cx) : Prop where
  ga : X.A.guards = some []
  rm : Room (4 * n + 3) X.A
  lam : ∃ (c P : Addr), LamX.TabB L.base L.mg c P ∧ X.env.code = .ref c ∧ (P, X.env.qual ++ "<lambda>") ∈ L.tb ∧ ∀ p ∈ L.tb, p.1 = P → p.2 = X.env.qual ++ "<lambda>"
  wd : Wf L C.wn C.ws C.wf
structure Ck (C : Ct) (L : Lw) (T : List Fn) (n : Nat) (X : Cx) : Prop where
  N : X.N = C.N
  sc : X.env.scope = C.sc
  fn : X.fn = C.fn
  T : C.T = T
  gc : ∀ p ∈ C.gc, ∃ u w, L.mg p.1 = some u ∧ L2.RelV w u ∧ ∀ ρ H, Rep L ρ H p.2 w
  fb : ∀ x ∈ C.fb, L.mg x = none
  sn : ∀ q ∈ C.sn, ∀ (i : Nat) (f : Str), q.2[i]? = some f → SlX.SCls L.K (L.ca q.1) ∧ ∃ p, SlX.Slot1 L.K (L.ca q.1) f p i
  mt : ∀ q ∈ C.mt, SlX.SCls L.K (L.ca q.1) ∧ Meth L.K (L.ca q.1) q.2.1 (L.fa q.2.2)
  xp : ∀ q ∈ C.xp, L.mg q.2 = some (.ref (L.ca q.1)) ∧ L.xf q.1 = "reason" ∧ ∃ fI fd, RefC L.P L.K L.mg (L.ca q.1) fI fd
  gd : C.gd = true → Gdx C L n X
  cl : ∀ q ∈ C.cl, L.mg q.2.1 = some (.ref (L.ca q.1)) ∧ Mk L.K (L.ca q.1) (L.fa q.2.2)
section
variable {L : Lw} {T : List Fn} {n : Nat} {cf : Orc} {E : XK} {X : Cx} {C : Ct}
theorem Ck.blk (K : Ck C L T n X) (s : Shared) (H : Hp) (scope : Scope) (cl : List (Str × Addr)) (D : Addr) (fp : List Addr) : Ck (C.blk scope) L T n (X.blk s H scope (compEnvC scope cl D X.env) fp) :=
  ⟨K.N, by
    show relabel scope X.env = relS scope C.sc
    rw [← K.sc]; rfl, rfl, K.T, K.gc, K.fb, K.sn, K.mt, K.xp, fun h => let g := K.gd h; ⟨g.ga, g.rm, g.lam, g.wd⟩, K.cl⟩
theorem Ck.free (K : Ck C L T n X) (G : Gd L T n cf E X) {x : Str} (h : freeB C x = true) : Gl X x ∧ X.mg x = none := by
  unfold freeB at h
  rw [Bool.and_eq_true, decide_eq_true_eq] at h
  exact ⟨gl_ok K.sc h.1, by rw [G.mg]; exact K.fb x h.2⟩
theorem blt_ok (G : Gd L T n cf E X) : ∀ b : Blt, CallR X (if (bltI b).1 then .builtin (bltI b).2 else .type (bltI b).2) (lD L E (blt b))
  | .len => len_ok G
  | .tuple => tuple_ok G
  | .list => list_ok G
  | .sorted => sorted_ok G
  | .sum => sum_ok G
  | .abs => abs_ok G
  | .max2 => two_ok (call_max2 G.calm) (fun _ _ => rfl) fun xs h => by
    unfold blt; split <;> first | rfl | contradiction | (exfalso; exact h _ _ rfl)
  | .min2 => two_ok (call_min2 G.calm) (fun _ _ => rfl) fun xs h => by
    unfold blt; split <;> first | rfl | contradiction | (exfalso; exact h _ _ rfl)
  | .all => all_ok G
  | .any => any_ok G
  | .int => int1_ok G
  | .rng1 => rng1_ok G
  | .rng2 => rng2_ok G
theorem blt_boot : ∀ b : Blt, bootBuiltins (bltN b) = some (if (bltI b).1 then .builtin (bltI b).2 else .type (bltI b).2)
  | .len => by decide +kernel
  | .tuple => by decide +kernel
  | .list => by decide +kernel
  | .sorted => by decide +kernel
  | .sum => by decide +kernel
  | .abs => by decide +kernel
  | .max2 => by decide +kernel
  | .min2 => by decide +kernel
  | .all => by decide +kernel
  | .any => by decide +kernel
  | .int => by decide +kernel
  | .rng1 => by decide +kernel
  | .rng2 => by decide +kernel
theorem blt_nm (b : Blt) : bltN b ≠ "__name__" ∧ (bltN b == ("__debug__" : Str)) = false := by
  cases b <;> exact ⟨by decide, by decide⟩
theorem ty_boot : ∀ t : Ty, bootBuiltins (tyN t) = some (.type (tyS t))
  | .int => by decide +kernel
  | .bool => by decide +kernel
  | .str => by decide +kernel
  | .tuple => by decide +kernel
  | .list => by decide +kernel
  | .dict => by decide +kernel
theorem ty_nm (t : Ty) : tyN t ≠ "__name__" ∧ (tyN t == ("__debug__" : Str)) = false := by
  cases t <;> exact ⟨by decide, by decide⟩
theorem tru_okP (G : Gd L T n cf E X) {pins : List (Addr × Obj)} {s : Shared} {σ : L2.St} {H : Hp} {x : V} {v : Value} {Q : Bool → Hp → Prop} {ρ : List Addr} {ah : AH} {x' : Vl} (I : L2.Inv X pins σ H s) (rx : L2.RelV x v) (S : Sim L ρ H ah) (hx : Rep L ρ H x' x) (P : Post L E ρ H (tru x' ah) (fun k _ _ H' => Q k H')) :
    wpAny (model X.prog X.w) X.A (truthy v) (L2.TP X pins σ Q) X.xe s := tru_okD G pins s σ H x v Q I rx ⟨ρ, ah, x', S, hx, P⟩
theorem cop_form (op : Cop) (x y : Vl) : (∃ (m : M Bool) (g : Bool → Bool), cop op x y = m.bind fun b => ret (.bl (g b))) ∨ (∃ k, cop op x y = ret (.bl k)) ∨ cop op x y = stuck := by
  unfold cop
  split <;> first | exact .inr (.inl ⟨_, rfl⟩) | exact .inr (.inr rfl) | exact .inl ⟨_, fun b => b, rfl⟩ | exact .inl ⟨_, fun b => !b, rfl⟩
theorem cop_bl {op : Cop} {x y : Vl} {f : Vl → M α} {ρ : List Addr} {H : Hp} {ah : AH} {Θ : α → AH → List Addr → Hp → Prop} (P : Post L E ρ H (((cop op x y).bind f) ah) Θ) : Post L E ρ H (cop op x y ah) (fun z ah1 ρ1 H1 => (∃ k, z = .bl k) ∧ Post L E ρ1 H1 (f z ah1) Θ) := by
  have key : ∀ {m : M Bool} {g : Bool → Bool}, cop op x y = (m.bind fun b => ret (.bl (g b))) → Post L E ρ H (cop op x y ah) (fun z ah1 ρ1 H1 => (∃ k, z = .bl k) ∧ Post L E ρ1 H1 (f z ah1) Θ) := by
    intro m g e
    rw [e] at P ⊢
    unfold M.bind at P ⊢
    cases q : m ah with
    | ok b h' => simp only [q] at P ⊢; exact fun ρ1 H1 st S => ⟨⟨_, rfl⟩, Post.move P S st⟩
    | ex c p h' => simp only [q] at P ⊢; exact P
    | no => simp only [q] at P; exact False.elim P
  have key2 : ∀ {k : Bool}, cop op x y = ret (.bl k) → Post L E ρ H (cop op x y ah) (fun z ah1 ρ1 H1 => (∃ k, z = .bl k) ∧ Post L E ρ1 H1 (f z ah1) Θ) := by
    intro k e
    rw [e] at P ⊢
    exact fun ρ1 H1 st S => ⟨⟨_, rfl⟩, Post.move (show Post L E ρ H (f (.bl k) ah) Θ from P) S st⟩
  have key3 : cop op x y = stuck → Post L E ρ H (cop op x y ah) (fun z ah1 ρ1 H1 => (∃ k, z = .bl k) ∧ Post L E ρ1 H1 (f z ah1) Θ) := by
    intro e
    rw [e] at P
    exact False.elim P
  rcases cop_form op x y with ⟨m, g, e⟩ | ⟨k, e⟩ | e
  · exact key e
  · exact key2 e
  · exact key3 e
end
end Ip

set_option Elab.async false
set_option linter.all false
set_option maxRecDepth 100000
set_option maxHeartbeats 4000000
namespace Ip
open PySem PySem.Spec PyProof.Rows L2

section
variable {L : Lw} {T : List Fn} {n : Nat} {cf : Orc} {E : XK} {X : Cx} {C : Ct} {ρ : List Addr} {H : Hp} {ah : AH}
def mthT : Mth → String
  | .append => "list" | .extend => "list" | .pop => "list" | .get => "dict" | .dpop => "dict" | .setd => "dict"
theorem chk_ty {m : Mth} {x' : Vl} {x : V} {Φ : Unit → AH → List Addr → Hp → Prop} (G : Gd L T n cf E X) (S : Sim L ρ H ah) (hx : Rep L ρ H x' x) (P : Post L E ρ H (chkT m x' ah) Φ) : tyV X.K (mthT m) x H ∧ Φ () ah ρ H := by
  cases hx with
  | ref e =>
    have lst : ∀ {Θ : Unit → AH → List Addr → Hp → Prop} {i : Nat} {a : Addr}, ρ[i]? = some a → Post L E ρ H (((rd i).bind fun o => match o with
        | .lst _ => ret ()
        | _ => stuck) ah) Θ → tyV X.K "list" (.ref a) H ∧ Θ () ah ρ H := by
      intro Θ i a e P
      obtain ⟨o, _, b1, P⟩ := Post.rd S e P
      cases b1 with
      | lst q r => exact ⟨.inl ⟨rfl, _, SqL.of q⟩, P.ret S⟩
      | _ => exact False.elim P
    have dk : ∀ {Θ : Unit → AH → List Addr → Hp → Prop} {i : Nat} {a : Addr}, ρ[i]? = some a → Post L E ρ H (((rd i).bind fun o => match o with
        | .dK _ => ret ()
        | _ => stuck) ah) Θ → tyV X.K "dict" (.ref a) H ∧ Θ () ah ρ H := by
      intro Θ i a e P
      obtain ⟨o, _, b1, P⟩ := Post.rd S e P
      cases b1 with
      | dK q r => exact ⟨.inr (.inr (.inl ⟨rfl, .inl ⟨_, q⟩⟩)), P.ret S⟩
      | _ => exact False.elim P
    cases m with
    | append => exact lst e P
    | extend => exact lst e P
    | pop => exact lst e P
    | get =>
      obtain ⟨o, _, b1, P⟩ := Post.rd S e P
      cases b1 with
      | dK q r => exact ⟨.inr (.inr (.inl ⟨rfl, .inl ⟨_, q⟩⟩)), P.ret S⟩
      | dT q r => exact ⟨.inr (.inr (.inl ⟨rfl, .inr ⟨_, q⟩⟩)), P.ret S⟩
      | _ => exact False.elim P
    | dpop => exact dk e P
    | setd => exact dk e P
  | _ => cases m <;> exact False.elim P
def mthI : Mth → String
  | .append => "list.append" | .extend => "list.extend" | .pop => "list.pop" | .get => "dict.get" | .dpop => "dict.pop" | .setd => "dict.setdefault"
theorem mth_ok (G : Gd L T n cf E X) : ∀ m : Mth, MtR X (mthI m) (mD L E m)
  | .append => append_ok G
  | .extend => extend_ok G
  | .pop => pop_ok G
  | .get => get_ok G
  | .dpop => dpop_ok G
  | .setd => setd_ok G
theorem mth_pl : ∀ m : Mth, PlainAttrs (mthT m)
  | .append => PySem.F.plainAttrs_list
  | .extend => PySem.F.plainAttrs_list
  | .pop => PySem.F.plainAttrs_list
  | .get => PySem.F.plainAttrs_dict
  | .dpop => PySem.F.plainAttrs_dict
  | .setd => PySem.F.plainAttrs_dict
theorem mth_sl : ∀ m : Mth, Slot (mthT m) (mthN m) (mthI m)
  | .append => PySem.F.slot_list_append
  | .extend => PySem.F.slot_list_extend
  | .pop => PySem.F.slot_list_pop
  | .get => PySem.F.slot_dict_get
  | .dpop => PySem.F.slot_dict_pop
  | .setd => PySem.F.slot_dict_setdefault
theorem mth_td : ∀ m : Mth, typeOf (.builtin (mthI m)) = pure (.type "method_descriptor")
  | .append => PySem.F.type_list_append
  | .extend => PySem.F.type_list_extend
  | .pop => PySem.F.type_list_pop
  | .get => PySem.F.type_dict_get
  | .dpop => PySem.F.type_dict_pop
  | .setd => PySem.F.type_dict_setdefault
/-! slots -/
theorem SR.len {xs : List (Option Vl)} {vs : List (Option V)} (h : SR L ρ H xs vs) : xs.length = vs.length := Paired.length h
theorem SR.putS {xs : List (Option Vl)} {vs : List (Option V)} {x : Vl} {v : V} (r : Rep L ρ H x v) (h : SR L ρ H xs vs) (i : Nat) : SR L ρ H (putSA i x xs) (SlX.putS i v vs) := by
  unfold putSA SlX.putS
  rw [h.len]
  exact SR.set r i (h.append (SR.nones _))
def snB (sn : List (Nat × List Str)) (tb : List (Nat × Nat)) (f : Str) : Prop := ∀ c j, slotA tb c = some j → ∃ r ∈ sn, r.1 = c ∧ r.2[j]? = some f
theorem snB_of {sn : List (Nat × List Str)} {tb : List (Nat × Nat)} {f : Str} (h : (tb.all fun q => sn.any fun r => r.1 == q.1 && decide (r.2[q.2]? = some f)) = true) : snB sn tb f := by
  intro c j e
  unfold slotA at e
  obtain ⟨q, h1, h2⟩ := Option.map_eq_some_iff.mp e
  have m := List.mem_of_find?_eq_some h1
  have c1 := List.find?_some h1
  rw [List.all_eq_true] at h
  have := h q m
  rw [List.any_eq_true] at this
  obtain ⟨r, hr, hq⟩ := this
  rw [Bool.and_eq_true, decide_eq_true_eq, beq_iff_eq] at hq
  rw [beq_iff_eq] at c1
  exact ⟨r, hr, by rw [hq.1, c1], by rw [← h2]; exact hq.2⟩
theorem fld_ok (G : Gd L T n cf E X) (K : Ck C L T n X) {tb : List (Nat × Nat)} {f : Str} (hb : snB C.sn tb f) {x' : Vl} {x : V} {Q : VK} (S : Sim L ρ H ah) (hx : Rep L ρ H x' x) (P : Post L E ρ H (fldV tb x' ah) (VQ L Q)) :
    ∃ a Cc dx p vs i v, x = .ref a ∧ SlX.Slt H a Cc dx vs ∧ SlX.SCls X.K Cc ∧ SlX.Slot1 X.K Cc f p i ∧ vs[i]? = some (some v) ∧ Q v H := by
  cases hx with
  | ref e =>
    obtain ⟨o, _, b1, P⟩ := Post.rd S e P
    cases b1 with
    | @sl c xs vs _ dx q d r =>
      obtain ⟨j, hj, P⟩ := Post.opt P
      obtain ⟨q0, hq, hc, hf⟩ := hb c j hj
      obtain ⟨s1, p, s2⟩ := K.sn q0 hq j f hf
      rw [hc] at s1 s2
      unfold getS at P
      cases hx : xs[j]? with
      | none => simp only [hx] at P; exact False.elim P
      | some o =>
        cases o with
        | none => simp only [hx] at P; exact False.elim P
        | some v' =>
          simp only [hx] at P
          obtain ⟨v, hv, rv⟩ := SR.get r hx
          exact ⟨_, _, _, p, vs, j, v, rfl, q, by rw [G.K]; exact s1, by rw [G.K]; exact s2, hv, P.oldT S rv⟩
    | _ => exact False.elim P
  | _ => exact False.elim P
theorem slt_ne {a Cc dx : Addr} {vs : List (Option V)} (q : SlX.Slt H a Cc dx vs) (d : H dx = some (.own a) ∨ H dx = some (.xd [])) : dx ≠ a := fun z => by
  subst z
  rcases q with ⟨q, _⟩ | ⟨q, _⟩
  · rcases d with d | d <;> (rw [q] at d; cases d)
  · rcases d with d | d <;> (rw [q] at d; unfold SlX.SlO at d; cases d)
theorem slot_step {i : Nat} {a Cc dx : Addr} {vs vs' : List (Option V)} (S : Sim L ρ H ah) (e : ρ[i]? = some a) (q : SlX.Slt H a Cc dx vs) (d : H dx = some (.own a) ∨ H dx = some (.xd [])) : Step ρ H ρ (SlX.slH H a Cc dx vs') := by
  have ha := List.mem_of_getElem? e
  have ndx : dx ∉ ρ := by rcases d with d | d <;> exact S.out d trivial
  refine ⟨⟨[], by simp, by simp⟩, fun b o h n z => ?_, fun b y h n _ => ?_, fun b y h n => ?_⟩
  · have hba : b ≠ a := fun z => n (by rw [z]; exact ha)
    by_cases hbd : b = dx
    · subst hbd
      rcases d with d | d
      · rw [d] at h; cases h
        exact absurd rfl (z.2 a)
      · rw [d] at h; cases h
        unfold SlX.slH
        rw [upd_ne hba, upd_same]
    · rw [SlX.slH_ne hba hbd]; exact h
  · have hba : b ≠ a := fun z => n (by rw [z]; exact ha)
    by_cases hbd : b = dx
    · subst hbd
      rcases d with d | d
      · rw [d] at h; cases h
        refine .inr ⟨ha, ?_⟩
        unfold SlX.slH
        rw [upd_ne hba, upd_same]
      · rw [d] at h; cases h
    · left
      rw [SlX.slH_ne hba hbd]; exact h
  · have hba : b ≠ a := fun z => n (by rw [z]; exact ha)
    by_cases hbd : b = dx
    · refine ⟨.xd [], ?_, fun _ z => (nomatch z)⟩
      unfold SlX.slH
      rw [upd_ne hba, hbd, upd_same]
    · exact ⟨.own y, by rw [SlX.slH_ne hba hbd]; exact h, fun _ z => (nomatch z)⟩
theorem setF_ok (G : Gd L T n cf E X) (K : Ck C L T n X) {tb : List (Nat × Nat)} {f : Str} (hb : snB C.sn tb f) {x' y' : Vl} {x y : V} {Φ : Unit → AH → List Addr → Hp → Prop} (S : Sim L ρ H ah) (hx : Rep L ρ H x' x) (hy : Rep L ρ H y' y) (P : Post L E ρ H (setF tb x' y' ah) Φ) :
    ∃ a Cc dx p vs i ah', x = .ref a ∧ SlX.Slt H a Cc dx vs ∧ SlX.SCls X.K Cc ∧ SlX.Slot1 X.K Cc f p i ∧ Step ρ H ρ (SlX.slH H a Cc dx (SlX.putS i y vs)) ∧ Sim L ρ (SlX.slH H a Cc dx (SlX.putS i y vs)) ah' ∧ Φ () ah' ρ (SlX.slH H a Cc dx (SlX.putS i y vs)) := by
  cases hx with
  | @ref i0 a e =>
    obtain ⟨o, _, b1, P⟩ := Post.rd S e P
    cases b1 with
    | @sl c xs vs _ dx q d r =>
      obtain ⟨j, hj, P⟩ := Post.opt P
      obtain ⟨q0, hq, hc, hf⟩ := hb c j hj
      obtain ⟨s1, p, s2⟩ := K.sn q0 hq j f hf
      rw [hc] at s1 s2
      have st : Step ρ H ρ (SlX.slH H a (L.ca c) dx (SlX.putS j y vs)) := slot_step S e q d
      have ndx : dx ∉ ρ := by rcases d with d | d <;> exact S.out d trivial
      have hne := slt_ne q d
      have S2 : Sim L ρ (SlX.slH H a (L.ca c) dx (SlX.putS j y vs)) (ah.set i0 (.sl c (putSA j y' xs))) := by
        refine S.upd e st (fun b hb hba ho h => ?_) (fun b ps h => ?_) (.sl (dx := dx) (SlX.slH_slt hne) (.inr ?_) ((r.step S st).putS (hy.step S st) j))
        · rw [SlX.slH_ne hba (fun z => ndx (by rw [← z]; exact hb))]; exact h
        · have h1 : b ≠ a := fun z => by
            rw [z] at h
            rcases q with ⟨q, _⟩ | ⟨q, _⟩
            · rw [q] at h; cases h
            · rw [q] at h; unfold SlX.SlO at h; cases h
          have h2 : b ≠ dx := fun z => by rw [z] at h; rcases d with d | d <;> (rw [d] at h; cases h)
          rw [SlX.slH_ne h1 h2]; exact h
        · unfold SlX.slH
          rw [upd_ne hne, upd_same]
      exact ⟨a, _, dx, p, vs, j, _, rfl, q, by rw [G.K]; exact s1, by rw [G.K]; exact s2, st, S2, P _ _ st S2⟩
    | _ => exact False.elim P
  | _ => exact False.elim P
def gSl (K : PySem.W.Frag) (to : TE) (f : Str) : TG := fun v σ H Q => to σ H fun x H1 => ∃ a Cc dx p vs i, x = .ref a ∧ SlX.Slt H1 a Cc dx vs ∧ SlX.SCls K Cc ∧ SlX.Slot1 K Cc f p i ∧ Q σ (SlX.slH H1 a Cc dx (SlX.putS i v vs))
theorem pg_sl {o : Expr} {f : Str} {pos : Pos} {to : TE} (ho : PE X o to) : PG X (.Attribute o f pos) (gSl X.K to f) := by
  refine ⟨fun pins s σ H v u Q I r h => ?_⟩
  show wpAny (model X.prog X.w) X.A (do
    let ov ← holding [u] (eval o X.env)
    standAt pos.atName
    holding [u, ov] (setAttr ov f u)
    release [u, ov] []) _ _ _
  refine wpAny_bind (wpAny_holding (thn (ho.run pins s σ H _ I h) fun ov s1 ⟨x, H1, I1, r1, a, Cc, dx, p, vs, i, ex, hsl, c, t, q⟩ => ?_))
  subst ex
  obtain rfl : ov = Value.ref a := r1
  refine wpAny_bind (wpAny_standAt (wpAny_bind (wpAny_holding (SlX.setslot_ok I1 hsl c t r fun s2 I2 => ?_))))
  exact wpAny_release ⟨σ, _, I2, q⟩
theorem chkC_ok {c : Nat} {x' : Vl} {x : V} {Φ : Unit → AH → List Addr → Hp → Prop} (S : Sim L ρ H ah) (hx : Rep L ρ H x' x) (P : Post L E ρ H (chkC c x' ah) Φ) : (∃ a dx vs, x = .ref a ∧ SlX.Slt H a (L.ca c) dx vs) ∧ Φ () ah ρ H := by
  cases hx with
  | ref e =>
    obtain ⟨o, _, b1, P⟩ := Post.rd S e P
    cases b1 with
    | sl q d r =>
      obtain ⟨hc, P9⟩ := Post.guard P
      rw [beq_iff_eq] at hc
      subst hc
      exact ⟨⟨_, _, _, rfl, q⟩, P9.ret S⟩
    | _ => exact False.elim P
  | _ => exact False.elim P
/-- a new instance -/
theorem new_ok {c : Nat} {x dx : Addr} (S : Sim L ρ H ah) (hx : H x = none) (hd : H dx = none) (hne : dx ≠ x) : Step ρ H (ρ ++ [x]) (upd (upd H dx (.own x)) x (.ins (L.ca c) dx [])) ∧ Sim L (ρ ++ [x]) (upd (upd H dx (.own x)) x (.ins (L.ca c) dx [])) (ah ++ [.sl c []]) := by
  have S1 : Sim L ρ (upd H dx (.own x)) ah := S.new hd
  have st1 : Step ρ H ρ (upd H dx (.own x)) := step_new hd
  have hx1 : (upd H dx (.own x)) x = none := by rw [upd_ne (Ne.symm hne)]; exact hx
  have hxr : x ∉ ρ := S.fresh hx
  have S2 : Sim L ρ (upd (upd H dx (.own x)) x (.ins (L.ca c) dx [])) ah := S1.new hx1
  exact ⟨st1.trans S1 (step_num hx1), S2.num hxr (.sl (dx := dx) (.inl ⟨upd_same, rfl⟩) (.inl (by rw [upd_ne hne, upd_same])) .nil)⟩
end
end Ip

set_option Elab.async false
set_option linter.all false
set_option maxRecDepth 100000
set_option maxHeartbeats 8000000
namespace Ip
open PySem PySem.Spec PyProof.Rows L2

section
variable {L : Lw} {T : List Fn} {n : Nat} {cf : Orc}
theorem callf_ok {C : Ct} {X : Cx} {E : XK} {f : Nat} {x : Str} {g : Bool} (K : Ck C L T n X) (h : fnB C f x g = true) : ∃ F, T[f]? = some F ∧ F.name = x ∧ F.glo = true ∧ F.gd = g := by
  unfold fnB at h
  rw [K.T] at h
  cases q : T[f]? with
  | none => rw [q] at h; cases h
  | some F =>
    rw [q] at h
    simp only [Bool.and_eq_true, decide_eq_true_eq, beq_iff_eq] at h
    exact ⟨F, rfl, h.1.1, h.1.2, h.2⟩
theorem plf_ok {C : Ct} {X : Cx} {f : Nat} (K : Ck C L T n X) (h : plB C f = true) : ∃ F, T[f]? = some F ∧ F.gd = false := by
  unfold plB at h
  rw [K.T] at h
  cases q : T[f]? with
  | none => rw [q] at h; cases h
  | some F =>
    rw [q] at h
    exact ⟨F, rfl, by simpa using h⟩
theorem fnv_ok {C : Ct} {X : Cx} {f : Nat} {y : Str} (K : Ck C L T n X) (h : (match C.T[f]? with
      | some F => decide (F.name = y) && F.glo
      | none => false) = true) : ∃ F, T[f]? = some F ∧ F.name = y ∧ F.glo = true := by
  rw [K.T] at h
  cases q : T[f]? with
  | none => rw [q] at h; cases h
  | some F =>
    rw [q] at h
    rw [Bool.and_eq_true, decide_eq_true_eq] at h
    exact ⟨F, rfl, h.1, h.2⟩
set_option maxHeartbeats 16000000 in
mutual
theorem pe_ok : ∀ (ir : Ex) {C : Ct} {X : Cx} {E : XK} {e : Expr}, Gd L T n cf E X → Ck C L T n X → mE C ir e = true → PE X e (dE L E (evE cf ir))
  | .dead, _, _, _, _, _, _, _ => ⟨fun _ _ _ _ _ _ ⟨_, _, _, _, _, P⟩ => False.elim P⟩
  | .var i, C, X, E, e, G, K, h => by
    unfold mE at h
    split at h
    · rename_i x p
      simp only [Bool.and_eq_true, decide_eq_true_eq] at h
      obtain ⟨⟨h1, h2⟩, h3⟩ := h
      obtain ⟨n1, n2⟩ := nm_ok h3
      refine PEimp (pe_var (i := i) (by rw [K.N]; exact h1) (by rw [K.sc]; exact vis_ok h2) n1 n2) fun σ H Q ⟨ρ, ah, σ', S, R, P⟩ => ?_
      unfold evE getS at P
      cases q : σ'[i]? with
      | none => simp only [q] at P; exact False.elim P
      | some o =>
        cases o with
        | none => simp only [q] at P; exact False.elim P
        | some v' =>
          simp only [q] at P
          obtain ⟨v, hv, rv⟩ := SR.get R q
          exact ⟨v, hv, P.oldT S rv⟩
    · cases h
  | .int i, C, X, E, e, G, K, h => by
    unfold mE at h
    split at h
    · have := of_decide_eq_true h
      subst this
      exact PEimp pe_int fun σ H Q ⟨ρ, ah, σ', S, R, P⟩ => Post.oldT P S (.int _)
    · cases h
  | .str i, C, X, E, e, G, K, h => by
    unfold mE at h
    split at h
    · have := of_decide_eq_true h
      subst this
      exact PEimp pe_str fun σ H Q ⟨ρ, ah, σ', S, R, P⟩ => Post.oldT P S (.str _)
    · cases h
  | .bl i, C, X, E, e, G, K, h => by
    unfold mE at h
    split at h
    · have := of_decide_eq_true h
      subst this
      exact PEimp pe_bl fun σ H Q ⟨ρ, ah, σ', S, R, P⟩ => Post.oldT P S (.bl _)
    · cases h
  | .non, C, X, E, e, G, K, h => by
    unfold mE at h
    split at h
    · exact PEimp pe_non fun σ H Q ⟨ρ, ah, σ', S, R, P⟩ => Post.oldT P S .non
    · cases h
  | .glob x v, C, X, E, e, G, K, h => by
    unfold mE at h
    split at h
    · rename_i y p
      simp only [Bool.and_eq_true, decide_eq_true_eq, List.any_eq_true] at h
      obtain ⟨⟨⟨h1, h2⟩, h3⟩, q, hq, h4, h5⟩ := h
      subst h1
      have h5 := eqb_ok _ _ h5
      obtain ⟨u, w, m1, m2, m3⟩ := K.gc q hq
      rw [h4] at m1
      refine PEimp (pe_glob (v := w) (gl_ok K.sc h2) (by rw [G.mg]; exact m1) m2 (nm_ok h3).1) fun σ H Q ⟨ρ, ah, σ', S, R, P⟩ => Post.oldT P S ?_
      rw [← h5]
      exact m3 _ _
    · cases h
  | .fnv f, C, X, E, e, G, K, h => by
    unfold mE at h
    split at h
    · rename_i y p
      simp only [Bool.and_eq_true] at h
      obtain ⟨⟨h2, h3⟩, h4⟩ := h
      obtain ⟨F, hF, hn, hgl⟩ := fnv_ok K h4
      refine PEimp (pe_glob (v := .ref (L.fa f)) (gl_ok K.sc h2) (by rw [G.mg, ← hn]; exact G.fns.mg f F hF hgl) rfl (nm_ok h3).1) fun σ H Q ⟨ρ, ah, σ', S, R, P⟩ => Post.oldT P S (.fn f)
    · cases h
  | .tup es, C, X, E, e, G, K, h => by
    unfold mE at h
    split at h
    · refine PEimp (pe_tup (pa_ok es G K h)) fun σ H Q ⟨ρ, ah, σ', S, R, P⟩ => ⟨ρ, ah, σ', S, R, (Post.bind P).imp fun xs ah1 ρ1 H1 st S1 P1 vs rv => ?_⟩
      obtain ⟨h1, P1⟩ := P1.guard
      have := ble_line h1
      exact ⟨by rw [← rv.length]; exact this, fun p hp => P1.newT S1 hp rv⟩
    · cases h
  | .lst es, C, X, E, e, G, K, h => by
    unfold mE at h
    split at h
    · refine PEimp (pe_lst (pa_ok es G K h)) fun σ H Q ⟨ρ, ah, σ', S, R, P⟩ => ⟨ρ, ah, σ', S, R, (Post.bind P).imp fun xs ah1 ρ1 H1 st S1 P1 vs rv => ?_⟩
      obtain ⟨h1, P1⟩ := P1.guard
      have := ble_line h1
      exact ⟨by rw [← rv.length]; exact this, fun p hp => P1.newL S1 hp rv⟩
    · cases h
  | .dK, C, X, E, e, G, K, h => by
    unfold mE at h
    split at h
    · exact PEimp pe_dnewK fun σ H Q ⟨ρ, ah, σ', S, R, P⟩ p hp => Post.newq P S hp fun ρ' H' st e => .dK e .nil
    · cases h
  | .dT, C, X, E, e, G, K, h => by
    unfold mE at h
    split at h
    · exact PEimp pe_dnewT fun σ H Q ⟨ρ, ah, σ', S, R, P⟩ p hp => Post.newq P S hp fun ρ' H' st e => .dT e .nil
    · cases h
  | .bin op a b, C, X, E, e, G, K, h => by
    unfold mE at h
    split at h
    · simp only [Bool.and_eq_true, decide_eq_true_eq] at h
      obtain ⟨⟨h1, h2⟩, h3⟩ := h
      subst h1
      exact PEimp (pe_op (bop_ok G op) (pe_ok a G K h2) (pe_ok b G K h3)) fun σ H Q ⟨ρ, ah, σ', S, R, P⟩ => ⟨ρ, ah, σ', S, R, (Post.bind P).imp fun x ah1 ρ1 H1 st S1 P1 xv rx =>
        ⟨ρ1, ah1, σ', S1, SR.step S st R, P1.bind.imp fun y ah2 ρ2 H2 st2 S2 P2 yv ry => ⟨ρ2, ah2, x, y, S2, rx.step S1 st2, ry, P2⟩⟩⟩
    · cases h
  | .neg a, C, X, E, e, G, K, h => by
    unfold mE at h
    split at h
    · refine PEimp (pe_un un_neg (pe_ok a G K h)) fun σ H Q ⟨ρ, ah, σ', S, R, P⟩ => ⟨ρ, ah, σ', S, R, (Post.bind P).imp fun x ah1 ρ1 H1 st S1 P1 xv rx => ?_⟩
      cases rx with
      | int i => exact ⟨i, rfl, Post.oldT (show Post L E ρ1 H1 (ret (.int (-i)) ah1) (VQ L Q) from P1) S1 (.int _)⟩
      | _ => exact False.elim P1
    · cases h
  | .cmp op a b, C, X, E, e, G, K, h => by
    unfold mE at h
    split at h
    · simp only [Bool.and_eq_true, decide_eq_true_eq, Bool.not_eq_true'] at h
      obtain ⟨⟨⟨h1, h0⟩, h2⟩, h3⟩ := h
      subst h1
      exact PEimp (pe_cmpR (cop_ok G op) (pe_ok a G K h2) (pe_ok b G K h3) h0) fun σ H Q ⟨ρ, ah, σ', S, R, P⟩ => ⟨ρ, ah, σ', S, R, (Post.bind P).imp fun x ah1 ρ1 H1 st S1 P1 xv rx =>
        ⟨ρ1, ah1, σ', S1, SR.step S st R, P1.bind.imp fun y ah2 ρ2 H2 st2 S2 P2 yv ry => ⟨ρ2, ah2, x, y, S2, rx.step S1 st2, ry, P2⟩⟩⟩
    · cases h
  | .chn p q a b c, C, X, E, e, G, K, h => by
    unfold mE at h
    split at h
    · simp only [Bool.and_eq_true, decide_eq_true_eq, Bool.not_eq_true'] at h
      obtain ⟨⟨⟨⟨⟨h1, h1'⟩, h0⟩, h2⟩, h3⟩, h4⟩ := h
      subst h1 h1'
      refine PEimp (pe_chain (cop_ok G p) (cop_ok G q) (pe_ok a G K h2) (pe_ok b G K h3) (pe_ok c G K h4) h0) fun σ H Q ⟨ρ, ah, σ', S, R, P⟩ => ⟨ρ, ah, σ', S, R, (Post.bind P).imp fun x ah1 ρ1 H1 st S1 P1 xv rx =>
        ⟨ρ1, ah1, σ', S1, SR.step S st R, P1.bind.imp fun y ah2 ρ2 H2 st2 S2 P2 yv ry => ⟨ρ2, ah2, x, y, S2, rx.step S1 st2, ry, (cop_bl P2).imp fun z ah3 ρ3 H3 st3 S3 P3 zv rz => ?_⟩⟩⟩
      obtain ⟨⟨k, rfl⟩, P3⟩ := P3
      cases rz
      refine ⟨k, rfl, ?_⟩
      have P3 : Post L E ρ3 H3 ((if k = true then ((evE cf c σ').bind fun w => cop q y w) else ret (.bl false)) ah3) (VQ L Q) := P3
      cases k with
      | false => exact Post.oldT P3 S3 (.bl _)
      | true =>
        have R3 := SR.step S2 st3 (SR.step S1 st2 (SR.step S st R))
        exact ⟨ρ3, ah3, σ', S3, R3, (Post.bind P3).imp fun w ah4 ρ4 H4 st4 S4 P4 wv rw' => ⟨ρ4, ah4, y, w, S4, (ry.step S2 st3).step S3 st4, rw', P4⟩⟩
    · cases h
  | .and_ a b, C, X, E, e, G, K, h => by
    have key : ∀ {x y : Expr} {r : List Expr} {p : Pos} , PE X x (dE L E (evE cf a)) → PE X (.BoolOp .And (y :: r) p) (dE L E (evE cf b)) → PE X (.BoolOp .And (x :: y :: r) p) (dE L E (evE cf (.and_ a b))) := by
      intro x y r p ha hb
      refine ⟨fun pins s σ H Q I ⟨ρ, ah, σ', S, R, P⟩ => ?_⟩
      refine BoolOp_and (thn (ha.run pins s σ H (fun xv H1 => ∃ ρ1 ah1 x', Step ρ H ρ1 H1 ∧ Sim L ρ1 H1 ah1 ∧ Rep L ρ1 H1 x' xv ∧ Post L E ρ1 H1 (((tru x').bind fun k => if k = true then evE cf b σ' else ret x') ah1) (VQ L Q)) I ⟨ρ, ah, σ', S, R, (Post.bind P).imp fun x' ah1 ρ1 H1 st S1 P1 xv rx => ⟨ρ1, ah1, x', st, S1, rx, P1⟩⟩) fun v s1 ⟨xv, H1, I1, r1, ρ1, ah1, x', st, S1, rx, P1⟩ => ?_)
      refine wpAny_mono (tru_okP (Q := fun k H2 => ∃ ρ2 ah2, Step ρ1 H1 ρ2 H2 ∧ Sim L ρ2 H2 ah2 ∧ Post L E ρ2 H2 ((if k = true then evE cf b σ' else ret x') ah2) (VQ L Q)) G I1 r1 S1 rx (P1.bind.imp fun k ah2 ρ2 H2 st2 S2 P2 => ⟨ρ2, ah2, st2, S2, P2⟩)) (fun k s2 ⟨H2, I2, ρ2, ah2, st2, S2, P2⟩ => ?_) fun _ _ z => z
      cases k with
      | true => exact hb.run pins s2 σ H2 Q I2 ⟨ρ2, ah2, σ', S2, SR.step S1 st2 (SR.step S st R), P2⟩
      | false => exact ⟨xv, H2, I2, r1, Post.oldT P2 S2 (rx.step S1 st2)⟩
    unfold mE at h
    split at h
    · rw [Bool.and_eq_true] at h
      exact key (pe_ok a G K h.1) (pe_one (pe_ok b G K h.2))
    · rw [Bool.and_eq_true] at h
      exact key (pe_ok a G K h.1) (pe_ok b G K h.2)
    · cases h
  | .or_ a b, C, X, E, e, G, K, h => by
    have key : ∀ {x y : Expr} {r : List Expr} {p : Pos} , PE X x (dE L E (evE cf a)) → PE X (.BoolOp .Or (y :: r) p) (dE L E (evE cf b)) → PE X (.BoolOp .Or (x :: y :: r) p) (dE L E (evE cf (.or_ a b))) := by
      intro x y r p ha hb
      refine ⟨fun pins s σ H Q I ⟨ρ, ah, σ', S, R, P⟩ => ?_⟩
      refine BoolOp_or (thn (ha.run pins s σ H (fun xv H1 => ∃ ρ1 ah1 x', Step ρ H ρ1 H1 ∧ Sim L ρ1 H1 ah1 ∧ Rep L ρ1 H1 x' xv ∧ Post L E ρ1 H1 (((tru x').bind fun k => if k = true then ret x' else evE cf b σ') ah1) (VQ L Q)) I ⟨ρ, ah, σ', S, R, (Post.bind P).imp fun x' ah1 ρ1 H1 st S1 P1 xv rx => ⟨ρ1, ah1, x', st, S1, rx, P1⟩⟩) fun v s1 ⟨xv, H1, I1, r1, ρ1, ah1, x', st, S1, rx, P1⟩ => ?_)
      refine wpAny_mono (tru_okP (Q := fun k H2 => ∃ ρ2 ah2, Step ρ1 H1 ρ2 H2 ∧ Sim L ρ2 H2 ah2 ∧ Post L E ρ2 H2 ((if k = true then ret x' else evE cf b σ') ah2) (VQ L Q)) G I1 r1 S1 rx (P1.bind.imp fun k ah2 ρ2 H2 st2 S2 P2 => ⟨ρ2, ah2, st2, S2, P2⟩)) (fun k s2 ⟨H2, I2, ρ2, ah2, st2, S2, P2⟩ => ?_) fun _ _ z => z
      cases k with
      | false => exact hb.run pins s2 σ H2 Q I2 ⟨ρ2, ah2, σ', S2, SR.step S1 st2 (SR.step S st R), P2⟩
      | true => exact ⟨xv, H2, I2, r1, Post.oldT P2 S2 (rx.step S1 st2)⟩
    unfold mE at h
    split at h
    · rw [Bool.and_eq_true] at h
      exact key (pe_ok a G K h.1) (pe_one (pe_ok b G K h.2))
    · rw [Bool.and_eq_true] at h
      exact key (pe_ok a G K h.1) (pe_ok b G K h.2)
    · cases h
  | .not_ a, C, X, E, e, G, K, h => by
    unfold mE at h
    split at h
    · have ha := pe_ok a G K h
      refine ⟨fun pins s σ H Q I ⟨ρ, ah, σ', S, R, P⟩ => ?_⟩
      refine UnaryOp_ (thn (ha.run pins s σ H (fun xv H1 => ∃ ρ1 ah1 x', Sim L ρ1 H1 ah1 ∧ Rep L ρ1 H1 x' xv ∧ Post L E ρ1 H1 (((tru x').bind fun k => ret (.bl (!k))) ah1) (VQ L Q)) I ⟨ρ, ah, σ', S, R, (Post.bind P).imp fun x' ah1 ρ1 H1 st S1 P1 xv rx => ⟨ρ1, ah1, x', S1, rx, P1⟩⟩) fun v s1 ⟨xv, H1, I1, r1, ρ1, ah1, x', S1, rx, P1⟩ => ?_)
      refine not_of (wpAny_mono (tru_okP (Q := fun k H2 => Q (.bl (!k)) H2) G I1 r1 S1 rx (P1.bind.imp fun k ah2 ρ2 H2 st2 S2 P2 => P2.oldT S2 (.bl _))) (fun k s2 ⟨H2, I2, q⟩ => ⟨.bl (!k), H2, I2, rfl, q⟩) fun _ _ z => z)
    · cases h
  | .ite_ c a b, C, X, E, e, G, K, h => by
    unfold mE at h
    split at h
    · simp only [Bool.and_eq_true] at h
      obtain ⟨⟨h1, h2⟩, h3⟩ := h
      refine PEimp (pe_ifExp (pt_ok c G K h1).1 (pe_ok a G K h2) (pe_ok b G K h3)) fun σ H Q ⟨ρ, ah, σ', S, R, P⟩ => ⟨ρ, ah, σ', S, R, (Post.bind P).imp fun k ah1 ρ1 H1 st S1 P1 => ?_⟩
      cases k with
      | true => exact ⟨ρ1, ah1, σ', S1, SR.step S st R, P1⟩
      | false => exact ⟨ρ1, ah1, σ', S1, SR.step S st R, P1⟩
    · cases h
  | .isi a t, C, X, E, e, G, K, h => by
    unfold mE at h
    split at h
    · simp only [Bool.and_eq_true, decide_eq_true_eq] at h
      obtain ⟨⟨⟨⟨⟨h1, h2⟩, h3⟩, h4⟩, h5⟩, h6⟩ := h
      subst h1 h2
      obtain ⟨g1, m1⟩ := K.free G h3
      obtain ⟨g2, m2⟩ := K.free G h4
      have pt : ∀ pos, PE X (.Name (tyN t) pos) (tC (.ty (tyS t))) := fun pos => pe_bltn g2 m2 (ty_boot t) rfl (ty_nm t).1 (ty_nm t).2
      refine PEimp (pe_callB (isi_ok (E := E) G t) g1 m1 PyProof.Rows.boot_isinstance (pa_cons (pe_ok a G K h6) (pa_cons (pt _) pa_nil) (star_ok h5)) (he := star_ok h5) (hpl := rfl)) fun σ H Q ⟨ρ, ah, σ', S, R, P⟩ => ⟨ρ, ah, σ', S, R, (Post.bind P).imp fun x ah1 ρ1 H1 st S1 P1 xv rx => ?_⟩
      exact ⟨ρ1, ah1, xv, x, S1, rfl, rx, P1.bind.imp fun k ah2 ρ2 H2 st2 S2 P2 => P2.oldT S2 (.bl _)⟩
    · cases h
  | .call f es, C, X, E, e, G, K, h => by
    unfold mE at h
    split at h
    · rename_i fx _ _ _ _
      simp only [Bool.and_eq_true] at h
      obtain ⟨⟨⟨⟨⟨h1, h2⟩, h3⟩, h4⟩, h5⟩, h6⟩ := h
      obtain ⟨F, hF, hn, hgl, hgd⟩ := callf_ok (E := E) K h6
      have hm : X.mg fx = some (.ref (L.fa f)) := by rw [G.mg, ← hn]; exact G.fns.mg f F hF hgl
      have Fk : FnOk X.prog X.w X.K X.mg X.base (L2.CX L.P L.w) (4 * n) (L.fa f) (L.fd f) (F.N.take F.ar) (spOf L cf f) := by
        rw [G.P, G.w, G.K, G.mg, G.base]; exact G.ok f F hF hgd
      refine PEimp (pe_call Fk (G.room.mono (Nat.le_succ _)) (gl_ok K.sc h1) hm (by rw [G.K]; exact G.fns.kp f F hF) (by rw [G.K]; exact G.fns.bd f F hF) .nil G.hx (pa_ok es G K h5) (nm_ok h2).1 (star_ok h3) (stars_any h4)) fun σ H Q ⟨ρ, ah, σ', S, R, P⟩ => ⟨ρ, ah, σ', S, R, (Post.bind P).imp fun xs ah1 ρ1 H1 st S1 P1 vs rv => ?_⟩
      show spOf L cf f (vs ++ []) H1 Q E
      rw [List.append_nil]
      exact ⟨ρ1, ah1, xs, S1, rv, P1⟩
    · rename_i fx _ _
      simp only [Bool.and_eq_true] at h
      obtain ⟨⟨⟨h1, h2⟩, h5⟩, h6⟩ := h
      obtain ⟨F, hF, hn, hgl, hgd⟩ := callf_ok (E := E) K h6
      have hm : X.mg fx = some (.ref (L.fa f)) := by rw [G.mg, ← hn]; exact G.fns.mg f F hF hgl
      have Fk : FnOk X.prog X.w X.K X.mg X.base (L2.CX L.P L.w) (4 * n) (L.fa f) (L.fd f) (F.N.take F.ar) (spOf L cf f) := by
        rw [G.P, G.w, G.K, G.mg, G.base]; exact G.ok f F hF hgd
      refine PEimp (pe_call0 Fk (G.room.mono (Nat.le_succ _)) (gl_ok K.sc h1) hm (by rw [G.K]; exact G.fns.kp f F hF) (by rw [G.K]; exact G.fns.bd f F hF) .nil G.hx (nm_ok h2).1) fun σ H Q ⟨ρ, ah, σ', S, R, P⟩ => ?_
      cases es with
      | cons _ _ => unfold mEs at h5; cases h5
      | nil => exact ⟨ρ, ah, [], S, .nil, P⟩
    · cases h
  | .blt b es, C, X, E, e, G, K, h => by
    unfold mE at h
    split at h
    · simp only [Bool.and_eq_true, decide_eq_true_eq] at h
      obtain ⟨⟨⟨⟨h1, h2⟩, h3⟩, h4⟩, h5⟩ := h
      subst h1
      obtain ⟨g1, m1⟩ := K.free G h2
      have hb := blt_ok (E := E) G b
      have hv := blt_boot b
      have imp : ∀ {t : TE}, (∀ σ H Q, dE L E (evE cf (.blt b es)) σ H Q → tCB (lD L E (blt b)) (dA L E (evEs cf es)) σ H Q) := fun σ H Q ⟨ρ, ah, σ', S, R, P⟩ => ⟨ρ, ah, σ', S, R, (Post.bind P).imp fun xs ah1 ρ1 H1 st S1 P1 vs rv => ⟨ρ1, ah1, xs, S1, rv, P1⟩⟩
      cases q : (bltI b).1 with
      | true =>
        rw [q] at hb hv
        exact PEimp (pe_callB hb g1 m1 hv (pa_ok es G K h5) (blt_nm b).1 (blt_nm b).2 (star_ok h3) (stars_any h4)) (imp (t := tC .non))
      | false =>
        rw [q] at hb hv
        exact PEimp (pe_callTy hb g1 m1 hv (pa_ok es G K h5) (blt_nm b).1 (blt_nm b).2 (star_ok h3) (stars_any h4)) (imp (t := tC .non))
    · cases h
  | .mth m o es, C, X, E, e, G, K, h => by
    unfold mE at h
    split at h
    · simp only [Bool.and_eq_true, decide_eq_true_eq] at h
      obtain ⟨⟨⟨⟨h1, h2⟩, h3⟩, h4⟩, h5⟩ := h
      subst h1
      refine PEimp (pe_bm0 (mth_pl m) (mth_sl m) (mth_td m) (mth_ok (E := E) G m) (pe_ok o G K h4) (base_ok h2) h3) fun σ H Q ⟨ρ, ah, σ', S, R, P⟩ => ⟨ρ, ah, σ', S, R, (Post.bind P).imp fun x ah1 ρ1 H1 st S1 P1 xv rx => ?_⟩
      obtain ⟨ty, P2⟩ := chk_ty G S1 rx P1.bind
      cases es with
      | cons _ _ => unfold mEs at h5; cases h5
      | nil => exact ⟨ty, ρ1, ah1, x, [], S1, rx, .nil, P2⟩
    · simp only [Bool.and_eq_true, decide_eq_true_eq] at h
      obtain ⟨⟨⟨⟨⟨⟨⟨h1, h2⟩, h3⟩, h6⟩, h7⟩, h8⟩, h4⟩, h5⟩ := h
      subst h1
      refine PEimp (pe_bm (mth_pl m) (mth_sl m) (mth_td m) (mth_ok (E := E) G m) (pe_ok o G K h4) (pa_ok es G K h5) (base_ok h2) (few_ok h6 h7 h8) h3 (star_ok h6) (stars_any h7)) fun σ H Q ⟨ρ, ah, σ', S, R, P⟩ => ⟨ρ, ah, σ', S, R, (Post.bind P).imp fun x ah1 ρ1 H1 st S1 P1 xv rx => ?_⟩
      obtain ⟨ty, P2⟩ := chk_ty G S1 rx P1.bind
      exact ⟨ty, ρ1, ah1, σ', S1, SR.step S st R, (Post.bind P2).imp fun xs ah2 ρ2 H2 st2 S2 P3 vs rv => ⟨ρ2, ah2, x, xs, S2, rx.step S1 st2, rv, P3⟩⟩
    · cases h
  | .ix a i, C, X, E, e, G, K, h => by
    unfold mE at h
    split at h
    · simp only [Bool.and_eq_true] at h
      obtain ⟨⟨h1, h2⟩, h3⟩ := h
      exact PEimp (pe_ix (ix_ok G) (pe_ok a G K h2) (pe_ok i G K h3) (plix_ok h1)) fun σ H Q ⟨ρ, ah, σ', S, R, P⟩ => ⟨ρ, ah, σ', S, R, (Post.bind P).imp fun x ah1 ρ1 H1 st S1 P1 xv rx =>
        ⟨ρ1, ah1, σ', S1, SR.step S st R, P1.bind.imp fun y ah2 ρ2 H2 st2 S2 P2 yv ry => ⟨ρ2, ah2, x, y, S2, rx.step S1 st2, ry, P2⟩⟩⟩
    · cases h
  | .slc a lo hi, C, X, E, e, G, K, h => by
    unfold mE at h
    split at h
    · simp only [Bool.and_eq_true] at h
      obtain ⟨⟨h1, h2⟩, h3⟩ := h
      exact PEimp (pe_slice (slc_ok G) (pe_ok a G K h1) (po_ok lo G K h2) (po_ok hi G K h3)) fun σ H Q ⟨ρ, ah, σ', S, R, P⟩ => ⟨ρ, ah, σ', S, R, (Post.bind P).imp fun x ah1 ρ1 H1 st S1 P1 xv rx =>
        ⟨ρ1, ah1, σ', S1, SR.step S st R, P1.bind.imp fun l ah2 ρ2 H2 st2 S2 P2 => ⟨ρ2, ah2, σ', S2, SR.step S1 st2 (SR.step S st R), P2.bind.imp fun u ah3 ρ3 H3 st3 S3 P3 => ⟨ρ3, ah3, x, S3, (rx.step S1 st2).step S2 st3, P3⟩⟩⟩⟩
    · cases h
  | .rvs a, C, X, E, e, G, K, h => by
    unfold mE at h
    split at h
    · refine PEimp (pe_revL (pe_ok a G K h)) fun σ H Q ⟨ρ, ah, σ', S, R, P⟩ => ⟨ρ, ah, σ', S, R, (Post.bind P).imp fun x ah1 ρ1 H1 st S1 P1 xv rx => ?_⟩
      cases rx with
      | ref e =>
        obtain ⟨o, _, b1, P2⟩ := Post.rd S1 e P1
        cases b1 with
        | lst q r => exact ⟨_, _, rfl, SqL.of q, fun p hp => P2.newL S1 hp r.rev⟩
        | _ => exact False.elim P2
      | _ => exact False.elim P1
    · cases h
  | .lc own tg it ifs el, C, X, E, e, G, K, h => by
    unfold mE at h
    split at h
    · rename_i y t i fs scope p
      simp only [Bool.and_eq_true, decide_eq_true_eq] at h
      obtain ⟨⟨⟨⟨⟨⟨h1, h2⟩, h3⟩, h4⟩, h5⟩, h6⟩, h7⟩ := h
      have ok : BlkOk X.N X.env.scope scope (ownOf C.N own) := by rw [K.N, K.sc]; exact blkOk_by h1
      have := pe_lc (pos := p) G.calm G.nd (pi_ok it G K h4) ok (fun s H D cl fp => pg_ok tg own (G.blk s H scope _ fp) (K.blk s H scope cl D fp) h5) (fun s H D cl fp => pf_ok ifs (G.blk s H scope _ fp) (K.blk s H scope cl D fp) h6) (fun s H D cl fp => pe_ok el (G.blk s H scope _ fp) (K.blk s H scope cl D fp) h7) (fold_ok h3)
      rw [h2] at this
      exact PEimp this fun σ H Q q => lc_den q
    · cases h
  | .lc2 own own1 tg it ifs tg1 it1 ifs1 el, C, X, E, e, G, K, h => by
    unfold mE at h
    split at h
    · rename_i y t i fs t1 i1 fs1 scope p
      simp only [Bool.and_eq_true, decide_eq_true_eq] at h
      obtain ⟨⟨⟨⟨⟨⟨⟨⟨⟨⟨⟨h1, h2⟩, ho⟩, h3⟩, h3'⟩, h4⟩, h5⟩, h6⟩, h7⟩, h8⟩, h9⟩, h10⟩ := h
      have ok : BlkOk X.N X.env.scope scope (ownOf C.N own) := by rw [K.N, K.sc]; exact blkOk_by h1
      have hv : ∀ i ∈ own1, i ∈ (ownOf C.N own).map (·.2) := fun i hi => by
        rw [h2]
        exact of_decide_eq_true (List.all_eq_true.mp ho i hi)
      have := pe_lc2 (pos := p) (vs1 := own1) G.calm G.nd (pi_ok it G K h4) ok hv (fun s H D cl fp => pg_ok tg own (G.blk s H scope _ fp) (K.blk s H scope cl D fp) h5) (fun s H D cl fp => pf_ok ifs (G.blk s H scope _ fp) (K.blk s H scope cl D fp) h6) (fun s H D cl fp => pi_ok it1 (G.blk s H scope _ fp) (K.blk s H scope cl D fp) h7) (fun s H D cl fp => pg_ok tg1 own1 (G.blk s H scope _ fp) (K.blk s H scope cl D fp) h8) (fun s H D cl fp => pf_ok ifs1 (G.blk s H scope _ fp) (K.blk s H scope cl D fp) h9) (fun s H D cl fp => pe_ok el (G.blk s H scope _ fp) (K.blk s H scope cl D fp) h10) (fold_ok h3) (fold_okE h3')
      rw [h2] at this
      exact PEimp this fun σ H Q q => lc2_den q
    · cases h
  | .dc tb own tg it ifs k v, C, X, E, e, G, K, h => by
    unfold mE at h
    split at h
    · rename_i y z t i fs scope p
      simp only [Bool.and_eq_true, decide_eq_true_eq] at h
      obtain ⟨⟨⟨⟨⟨⟨⟨h1, h2⟩, h3⟩, h4⟩, h5⟩, h6⟩, h7⟩, h8⟩ := h
      have ok : BlkOk X.N X.env.scope scope (ownOf C.N own) := by rw [K.N, K.sc]; exact blkOk_by h1
      have := pe_dcA (pos := p) (dict0_is tb) G.u1 G.calm G.nd (pi_ok it G K h4) ok (fun s H D cl fp => pg_ok tg own (G.blk s H scope _ fp) (K.blk s H scope cl D fp) h5) (fun s H D cl fp => pf_ok ifs (G.blk s H scope _ fp) (K.blk s H scope cl D fp) h6) (fun s H D cl fp => pe_ok k (G.blk s H scope _ fp) (K.blk s H scope cl D fp) h7) (fun s H D cl fp => pe_ok v (G.blk s H scope _ fp) (K.blk s H scope cl D fp) h8) (fold_ok h3)
      rw [h2] at this
      exact PEimp this fun σ H Q q => dc_den q
    · cases h
  | .dc2 tb own own1 tg it ifs tg1 it1 ifs1 k v, C, X, E, e, G, K, h => by
    unfold mE at h
    split at h
    · rename_i y z t i fs t1 i1 fs1 scope p
      simp only [Bool.and_eq_true, decide_eq_true_eq] at h
      obtain ⟨⟨⟨⟨⟨⟨⟨⟨⟨⟨⟨⟨h1, h2⟩, ho⟩, h3⟩, h3'⟩, h4⟩, h5⟩, h6⟩, h7⟩, h8⟩, h9⟩, h10⟩, h11⟩ := h
      have ok : BlkOk X.N X.env.scope scope (ownOf C.N own) := by rw [K.N, K.sc]; exact blkOk_by h1
      have hv : ∀ i ∈ own1, i ∈ (ownOf C.N own).map (·.2) := fun i hi => by
        rw [h2]
        exact of_decide_eq_true (List.all_eq_true.mp ho i hi)
      have := pe_dc2 (pos := p) (vs1 := own1) (dict0_is tb) G.u1 G.calm G.nd (pi_ok it G K h4) ok hv (fun s H D cl fp => pg_ok tg own (G.blk s H scope _ fp) (K.blk s H scope cl D fp) h5) (fun s H D cl fp => pf_ok ifs (G.blk s H scope _ fp) (K.blk s H scope cl D fp) h6) (fun s H D cl fp => pe_ok k (G.blk s H scope _ fp) (K.blk s H scope cl D fp) h10) (fun s H D cl fp => pe_ok v (G.blk s H scope _ fp) (K.blk s H scope cl D fp) h11) (fold_ok h3) (fun s H D cl fp => pi_ok it1 (G.blk s H scope _ fp) (K.blk s H scope cl D fp) h7) (fun s H D cl fp => pg_ok tg1 own1 (G.blk s H scope _ fp) (K.blk s H scope cl D fp) h8) (fun s H D cl fp => pf_ok ifs1 (G.blk s H scope _ fp) (K.blk s H scope cl D fp) h9) (fold_okE h3')
      rw [h2] at this
      exact PEimp this fun σ H Q q => dc2_den q
    · cases h
  | .srtI o, C, X, E, e, G, K, h => by
    unfold mE at h
    split at h
    · simp only [Bool.and_eq_true, decide_eq_true_eq] at h
      obtain ⟨⟨⟨⟨⟨h1, h2⟩, h3⟩, h4⟩, h5⟩, h6⟩ := h
      subst h1 h2
      obtain ⟨g1, m1⟩ := K.free G h3
      exact pe_srtI G (pe_ok o G K h6) g1 m1 (base_ok h4) h5
    · cases h
  | .fld tb f o, C, X, E, e, G, K, h => by
    unfold mE at h
    split at h
    · simp only [Bool.and_eq_true, decide_eq_true_eq] at h
      obtain ⟨⟨⟨h1, h2⟩, h3⟩, h4⟩ := h
      subst h1
      exact PEimp (SlX.pe_sl (pe_ok o G K h4) (base_ok h2)) fun σ H Q ⟨ρ, ah, σ', S, R, P⟩ => ⟨ρ, ah, σ', S, R, (Post.bind P).imp fun x ah1 ρ1 H1 st S1 P1 xv rx => fld_ok G K (snB_of h3) S1 rx P1⟩
    · cases h
  | .mcl c f m o es, C, X, E, e, G, K, h => by
    have fk : plB C f = true → decide ((c, m, f) ∈ C.mt) = true → SlX.SCls X.K (L.ca c) ∧ Meth X.K (L.ca c) m (L.fa f) ∧ FnR X.prog X.w X.K X.mg X.base (L2.CX L.P L.w) (4 * n) (L.fa f) (fun vs H Q E => spOf L cf f (vs ++ []) H Q E) := fun q1 q2 => by
      have q2 := of_decide_eq_true q2
      obtain ⟨F, hF, hgd⟩ := plf_ok K q1
      obtain ⟨s1, s2⟩ := K.mt _ q2
      have Fk : FnOk X.prog X.w X.K X.mg X.base (L2.CX L.P L.w) (4 * n) (L.fa f) (L.fd f) (F.N.take F.ar) (spOf L cf f) := by
        rw [G.P, G.w, G.K, G.mg, G.base]; exact G.ok f _ hF hgd
      exact ⟨by rw [G.K]; exact s1, by rw [G.K]; exact s2, Fk.raw (by rw [G.K]; exact G.fns.bd f _ hF) .nil⟩
    unfold mE at h
    split at h
    · simp only [Bool.and_eq_true] at h
      obtain ⟨⟨⟨⟨⟨⟨h1, h2⟩, h3⟩, h4⟩, h5⟩, h6⟩, h7⟩ := h
      have h1 := of_decide_eq_true h1
      subst h1
      obtain ⟨c1, c2, c3⟩ := fk h5 h4
      refine PEimp (SlX.pe_methSl0 (pe_ok o G K h6) c1 c2 c3 (G.room.mono (Nat.le_succ _)) G.hx (meth_ht h2 rfl h3)) fun σ H Q ⟨ρ, ah, σ', S, R, P⟩ => ⟨ρ, ah, σ', S, R, (Post.bind P).imp fun x ah1 ρ1 H1 st S1 P1 xv rx => ?_⟩
      obtain ⟨⟨a, dx, vs, ex, hs⟩, P2⟩ := chkC_ok S1 rx P1.bind
      cases es with
      | cons _ _ => unfold mEs at h7; cases h7
      | nil => exact ⟨a, dx, vs, ex, hs, ρ1, ah1, [x], S1, .cons rx .nil, P2⟩
    · simp only [Bool.and_eq_true] at h
      obtain ⟨⟨⟨⟨⟨⟨⟨⟨⟨h1, h2⟩, h3⟩, h8⟩, h9⟩, h10⟩, h4⟩, h5⟩, h6⟩, h7⟩ := h
      have h1 := of_decide_eq_true h1
      subst h1
      obtain ⟨c1, c2, c3⟩ := fk h5 h4
      refine PEimp (SlX.pe_methSl (pe_ok o G K h6) c1 c2 c3 (G.room.mono (Nat.le_succ _)) G.hx (pa_ok es G K h7) (star_ok h8) (stars_any h9) (meth_ht h2 (few_ok h8 h9 (of_decide_eq_true h10)) h3)) fun σ H Q ⟨ρ, ah, σ', S, R, P⟩ => ⟨ρ, ah, σ', S, R, (Post.bind P).imp fun x ah1 ρ1 H1 st S1 P1 xv rx => ?_⟩
      obtain ⟨⟨a, dx, vs, ex, hs⟩, P2⟩ := chkC_ok S1 rx P1.bind
      refine ⟨a, dx, vs, ex, hs, ρ1, ah1, σ', S1, SR.step S st R, (Post.bind P2).imp fun xs ah2 ρ2 H2 st2 S2 P3 vs rv => ?_⟩
      show spOf L cf f ((xv :: vs) ++ []) H2 Q E
      rw [List.append_nil]
      exact ⟨ρ2, ah2, x :: xs, S2, .cons (rx.step S1 st2) rv, P3⟩
    · cases h
  | .new c f es, C, X, E, e, G, K, h => by
    unfold mE at h
    split at h
    · rename_i fx _ _ _ _
      simp only [Bool.and_eq_true] at h
      obtain ⟨⟨⟨⟨⟨⟨h1, h2⟩, h3⟩, h4⟩, h5⟩, h6⟩, h7⟩ := h
      have q2 := of_decide_eq_true h5
      obtain ⟨F, hF, hgd⟩ := plf_ok K h6
      obtain ⟨s1, s2⟩ := K.cl _ q2
      have Fk : FnOk X.prog X.w X.K X.mg X.base (L2.CX L.P L.w) (4 * n) (L.fa f) (L.fd f) (F.N.take F.ar) (spOf L cf f) := by
        rw [G.P, G.w, G.K, G.mg, G.base]; exact G.ok f _ hF hgd
      refine PEimp (pe_make (by rw [G.K]; exact s2) Fk G.room (gl_ok K.sc h1) (by rw [G.mg]; exact s1) (by rw [G.K]; exact G.fns.bd f _ hF) .nil G.hx (pa_ok es G K h7) (nm_ok h2).1 (star_ok h3) (stars_any h4)) fun σ H Q ⟨ρ, ah, σ', S, R, P⟩ => ⟨ρ, ah, σ', S, R, (Post.bind P).imp fun xs ah1 ρ1 H1 st S1 P1 vs rv x dx hx hd hne => ?_⟩
      obtain ⟨stn, Sn⟩ := new_ok (c := c) S1 hx hd hne
      have P2 : Post L E ρ1 H1 (((cf f (.ref ah1.length :: xs)).bind fun z => (nonM z).bind fun _ => ret (.ref ah1.length)) (ah1 ++ [.sl c []])) (VQ L Q) := P1
      have P3 := Post.move P2 Sn stn
      refine ⟨ρ1 ++ [x], _, .ref ah1.length :: xs, Sn, ?_, P3.bind.imp fun z ah3 ρ3 H3 st3 S3 P4 zv rz => ?_⟩
      · rw [List.append_nil]
        exact .cons (Rep.last S1.len.symm) (rv.step S1 stn)
      · cases rz with
        | non => exact ⟨rfl, Post.ret (show Post L E ρ3 H3 (ret (.ref ah1.length) ah3) (VQ L Q) from P4) S3 _ ((Rep.last S1.len.symm).step Sn st3)⟩
        | _ => exact False.elim P4
    · cases h
  | .callF f es, C, X, E, e, G, K, h => by
    unfold mE at h
    split at h
    · rename_i fx _ _ _ _
      simp only [Bool.and_eq_true] at h
      obtain ⟨⟨⟨⟨⟨h1, h2⟩, h3⟩, h4⟩, h5⟩, h6⟩ := h
      obtain ⟨F, hF, hn, hgl, hgd⟩ := callf_ok (E := E) K h6
      have hm : X.mg fx = some (.ref (L.fa f)) := by rw [G.mg, ← hn]; exact G.fns.mg f F hF hgl
      have Fk : FnOk X.prog X.w X.K X.mg X.base (L2.CX L.P L.w) (4 * n) (L.fa f) (L.fd f) (F.N.take F.ar) (spOf L cf f) := by
        rw [G.P, G.w, G.K, G.mg, G.base]; exact G.ok f F hF hgd
      refine PEimp (pe_call Fk (G.room.mono (Nat.le_succ _)) (gl_ok K.sc h1) hm (by rw [G.K]; exact G.fns.kp f F hF) (by rw [G.K]; exact G.fns.bd f F hF) .nil G.hx (pa_ok es G K h5) (nm_ok h2).1 (star_ok h3) (stars_any h4)) fun σ H Q ⟨ρ, ah, σ', S, R, P⟩ => ⟨ρ, ah, σ', S, R, (Post.bind P).imp fun xs ah1 ρ1 H1 st S1 P1 vs rv => ?_⟩
      show spOf L cf f (vs ++ []) H1 Q E
      rw [List.append_nil]
      exact frame_ok S1 rv P1
    · cases h
  | .calF m i es, C, X, E, e, G, K, h => by
    unfold mE at h
    split at h
    · rename_i fx px y ys pos
      simp only [Bool.and_eq_true, decide_eq_true_eq] at h
      obtain ⟨⟨⟨⟨⟨⟨⟨h0, h1⟩, h2⟩, h3⟩, h4⟩, h5⟩, h6⟩, h7⟩ := h
      have h6 := Nat.le_of_ble_eq_true h6
      rw [K.T] at h6 h7
      have one : ∀ (f : Nat) (F : Fn), T[f]? = some F → F.gd = false → PE X (.Call (.Name fx px) (y :: ys) [] pos) (tCallL i (L.fa f) (spOf L cf f) [] E (dA L E (evEs cf es))) := fun f F hF hgd => by
        have Fk : FnOk X.prog X.w X.K X.mg X.base (L2.CX L.P L.w) (4 * n) (L.fa f) (L.fd f) (F.N.take F.ar) (spOf L cf f) := by
          rw [G.P, G.w, G.K, G.mg, G.base]; exact G.ok f F hF hgd
        exact pe_callL Fk (G.room.mono (Nat.le_succ _)) (by rw [K.N]; exact h0) (by rw [K.sc]; exact vis_ok h1) (by rw [G.K]; exact G.fns.kp f F hF) (by rw [G.K]; exact G.fns.bd f F hF) .nil G.hx (pa_ok es G K h5) (nm_ok h2).1 (nm_ok h2).2 (star_ok h3) (stars_any h4)
      refine ⟨fun pins s σ H Q I ⟨ρ, ah, σ', S, R, P⟩ => ?_⟩
      unfold evE getS at P
      cases q : σ'[i]? with
      | none => simp only [q] at P; exact False.elim P
      | some o =>
        cases o with
        | none => simp only [q] at P; exact False.elim P
        | some v' =>
          simp only [q] at P
          obtain ⟨v, hv, rv⟩ := SR.get R q
          cases rv with
          | fn f =>
            have P1 : Post L E ρ H (((guardB (Nat.blt f m) (ret f)).bind fun f => (evEs cf es σ').bind fun vs => frame (cf f) vs) ah) (VQ L Q) := P
            obtain ⟨hb, P2⟩ := Post.guard P1.bind
            have P2 := P2.ret S
            have hlt : f < m := Nat.le_of_ble_eq_true hb
            have hlt2 : f < T.length := Nat.lt_of_lt_of_le hlt h6
            have hgd : T[f].gd = false := by
              have := List.all_eq_true.mp h7 T[f] (List.mem_of_getElem? (i := f) (by rw [List.getElem?_take]; simp [hlt, hlt2]))
              simpa using this
            refine (one f T[f] (List.getElem?_eq_getElem hlt2) hgd).run pins s σ H Q I ⟨hv, ρ, ah, σ', S, R, P2.bind.imp fun xs ah1 ρ1 H1 st S1 P3 vs rv => ?_⟩
            show spOf L cf f (vs ++ []) H1 Q E
            rw [List.append_nil]
            exact frame_ok S1 rv P3
          | _ => exact False.elim P
    · cases h
  | .callG fr f es, C, X, E, e, G, K, h => by
    unfold mE at h
    split at h
    · rename_i fx px y ys pos
      simp only [Bool.and_eq_true] at h
      obtain ⟨⟨⟨⟨⟨⟨h0, h1⟩, h2⟩, h3⟩, h4⟩, h5⟩, h6⟩ := h
      obtain ⟨F, hF, hn, hgl, hgd⟩ := callf_ok (E := E) K h6
      have hm : X.mg fx = some (.ref (L.fa f)) := by rw [G.mg, ← hn]; exact G.fns.mg f F hF hgl
      have Fk : FnG X.prog X.w X.K X.mg X.base (L2.CX L.P L.w) (4 * n) (L.fa f) (L.fd f) (F.N.take F.ar) (spOf L cf f) := by
        rw [G.P, G.w, G.K, G.mg, G.base]; exact G.okG f F hF hgd
      refine ⟨fun pins s σ H Q I ⟨ρ, ah, σ', S, R, P⟩ => ?_⟩
      refine wpAny_Call_Name_kw (ld_glob I (gl_ok K.sc h1) hm ?_ (nm_ok h2).1)
      refine PySem.W.callWith_K (h₀ := X.base) I.ok.mod.kin (by rw [G.K]; exact G.fns.kp f F hF) (thn ((pa_ok es G K h5).run pos pins s σ H (fun vs H1 => spOf L cf f vs H1 Q E) I ⟨ρ, ah, σ', S, R, (Post.bind P).imp fun xs ah1 ρ1 H1 st S1 P1 vs rv => by
        cases fr with
        | true => exact frameW_ok S1 rv P1
        | false => exact ⟨ρ1, ah1, xs, S1, rv, P1⟩⟩) fun us s1 ⟨vs, H1, I1, r, q⟩ => ⟨I1.kIn, ?_⟩) (star_ok h3) (stars_any h4)
      have hl : us.length = (F.N.take F.ar).length := by rw [← r.length]; exact Fk.len _ _ _ _ q
      have b := G.fns.bd f F hF s1 us (by rw [← G.K]; exact I1.kIn) (by rw [List.append_nil]; exact hl)
      rw [List.append_nil] at b
      refine wpAny_call (codeAny_mono (Fk.run X.A X.stack s1 H1 ⟨us, []⟩ us vs Q E (K.gd h0).ga (G.room.mono (Nat.le_succ _)) I1.env0 b r q) fun r s' hq => ?_)
      cases r with
      | error e => exact G.hx pins σ H1 s1 e s' I1 hq
      | ok fl =>
        cases fl with
        | ret u => exact I1.after hq
        | next => exact False.elim hq
        | brk => exact False.elim hq
        | cont => exact False.elim hq
    · cases h
  | .wrd ws fine a, C, X, E, e, G, K, h => by
    unfold mE at h
    split at h
    · rename_i fx px params body scope lp pos
      simp only [Bool.and_eq_true, decide_eq_true_eq] at h
      obtain ⟨⟨⟨⟨⟨⟨⟨⟨h0, h1⟩, h2⟩, h3⟩, h4⟩, h5⟩, h6⟩, h7⟩, h8⟩ := h
      subst h1 h6 h7
      obtain ⟨ga, rm, ⟨c, Pt, TB, hcode, hmT, hu⟩, ⟨g, oc, dV, kV, doc, pm, cdv, ct, od, an, osl, pg, bg, sg, Ng, av, ev, cn, w1, w2, w3, w4, w5, w6, w7, w8, w9, w10, w11, w12⟩⟩ := K.gd h0
      have ep : params = ⟨[], [], none, [], [], none, []⟩ := by
        unfold noPar at h4
        split at h4
        · rfl
        · cases h4
      subst ep
      have hrm := rm.un
      have hG := gives_w (L := L) (X := X) (Ng := Ng) (x := C.wn) (a := av) (q := X.env.qual ++ "<lambda>") (g := g) (cdg := cdv) G.K G.mg ga (by omega) w6.nd w10 w11 w12
      have hbody : ∀ (A : Around) (outer : List Env) (s : Shared) (H : Hp) (E' : XK) (f c' : Addr), Room (4 * n + 1) (A.deeper (LamX.lamEnv X scope s.heap.objs.size f c')) → PE (LamX.lamCx X A outer s H E' scope f c') body (dE L E' (evE cf a)) := fun A outer s H E' f c' hr => by
        refine pe_ok a (C := C.lamC scope) ⟨G.P, G.w, G.K, G.mg, G.base, G.nd, rfl, hr, G.fns, G.ok, G.okG, ?_⟩ ⟨K.N, rfl, rfl, K.T, K.gc, K.fb, K.sn, K.mt, K.xp, (fun z => by cases z), K.cl⟩ h8
        have tk : Takes (LamX.lamCx X A outer s H E' scope f c') (fun cls d _ H => E' cls d H) := takes_of rfl rfl rfl rfl
        have := passes_call tk (E := E') fun _ _ _ _ h => h
        rw [← G.P, ← G.w]
        exact this
      have main := LamX.pe_lamcall (X := X) (params := ⟨[], [], none, [], [], none, []⟩) (T := L.tb) (TT := TTw L C.ws C.wf) (k := 4 * n + 1) (t := fun E' => dE L E' (evE cf a)) (lpos := lp) (p := px) (pos := pos) (gl_ok K.sc h2) (by rw [G.mg]; exact w1) (by rw [G.K]; exact w2) (by rw [G.K]; exact w3) (by rw [G.K]; exact w4) (by rw [G.K]; exact w5) w6 w7 w8 hG (by rw [G.base, G.mg]; exact TB) hcode hmT hu rm (by rw [K.sc]; exact LamX.lamS_by h5) rfl (fun _ _ _ _ _ => rfl) hbody (nm_ok h3).1 (nm_ok w9).1 (nm_ok w9).2
      refine PEimp main fun σ H Q ⟨ρ, ah, σ', S, R, P⟩ => ⟨S.tb, fun H1 hx hT => ?_⟩
      have st1 : Step ρ H ρ H1 := ⟨⟨[], by simp, by simp⟩, fun a o e _ z => hx a o e z.1, fun a y e _ _ => .inl (hx a _ e fun _ z => nomatch z), fun a y e _ => ⟨.own y, hx a _ e (fun _ z => nomatch z), fun _ z => nomatch z⟩⟩
      have S1 : Sim L ρ H1 ah := by
        refine ⟨S.len, S.nd, fun i b o e1 e2 => (S.ob i b o e1 e2).step S st1 fun ho e => hx b ho e ?_, hT⟩
        obtain ⟨_, _, _, _, rr⟩ := S.at (List.mem_of_getElem? e1)
        obtain ⟨ho', e', n'⟩ := rr.at
        rw [e] at e'
        cases e'
        exact ntb_of n'
      show dE L (wExc L C.ws Q) (evE cf a) σ H1 (fun _ H' => Q (.str C.wf) H')
      refine ⟨ρ, ah, σ', S1, SR.step S st1 R, ?_⟩
      have P : Post L E ρ H (worded C.ws C.wf (evE cf a σ') ah) (VQ L Q) := P
      unfold worded at P
      cases q : evE cf a σ' ah with
      | no => rw [q] at P; exact False.elim P
      | ok v h' =>
        rw [q] at P
        exact fun ρ' H' st S' w rw' => P ρ' H' (st1.trans S1 st) S' _ (.str _)
      | ex k p h' =>
        simp only [q] at P
        split at P
        · rename_i x hx2
          exact fun ρ' H' cls d st S' hE => ⟨ρ', k, p, x, hE, hx2, P ρ' H' (st1.trans S1 st) S' _ (.str _)⟩
        · exact False.elim P
    · cases h
theorem pa_ok : ∀ (ir : Exs) {C : Ct} {X : Cx} {E : XK} {es : List Expr}, Gd L T n cf E X → Ck C L T n X → mEs C ir es = true → PA X es (dA L E (evEs cf ir))
  | .nil, C, X, E, es, G, K, h => by
    unfold mEs at h; rw [List.isEmpty_iff] at h
    subst h
    exact PAimp pa_nil fun σ H Q ⟨ρ, ah, σ', S, R, P⟩ => Post.ret P S _ .nil
  | .cons x xs, C, X, E, es, G, K, h => by
    unfold mEs at h
    split at h
    · simp only [Bool.and_eq_true] at h
      obtain ⟨⟨h1, h2⟩, h3⟩ := h
      exact PAimp (pa_cons (pe_ok x G K h2) (pa_ok xs G K h3) (star_ok h1)) fun σ H Q ⟨ρ, ah, σ', S, R, P⟩ => ⟨ρ, ah, σ', S, R, (Post.bind P).imp fun x ah1 ρ1 H1 st S1 P1 xv rx =>
        ⟨ρ1, ah1, σ', S1, SR.step S st R, P1.bind.imp fun xs ah2 ρ2 H2 st2 S2 P2 vs rv => P2.ret S2 _ (.cons (rx.step S1 st2) rv)⟩⟩
    · cases h
theorem po_ok : ∀ (ir : Oe) {C : Ct} {X : Cx} {E : XK} {o : Option Expr}, Gd L T n cf E X → Ck C L T n X → mO C ir o = true → PO X o (dO L E (evO cf ir))
  | .non, C, X, E, o, G, K, h => by
    unfold mO at h; rw [Option.isNone_iff_eq_none] at h
    subst h
    exact POimp po_none fun σ H Q ⟨ρ, ah, σ', S, R, P⟩ => Post.ret P S
  | .som x, C, X, E, o, G, K, h => by
    unfold mO at h
    split at h
    · refine POimp (po_some (pe_ok x G K h)) fun σ H Q ⟨ρ, ah, σ', S, R, P⟩ => ⟨ρ, ah, σ', S, R, (Post.bind P).imp fun x ah1 ρ1 H1 st S1 P1 xv rx => ?_⟩
      cases rx with
      | int i => exact ⟨i, rfl, Post.ret (show Post L E ρ1 H1 (ret (some i) ah1) _ from P1) S1⟩
      | _ => exact False.elim P1
    · cases h
theorem pt_ok : ∀ (ir : Te) {C : Ct} {X : Cx} {E : XK} {e : Expr}, Gd L T n cf E X → Ck C L T n X → mB C ir e = true → PT X e (dB L E (evB cf ir)) ∧ True
  | .val a, C, X, E, e, G, K, h => by
    unfold mB at h; rw [Bool.and_eq_true] at h
    have ha := pe_ok a G K h.2
    refine ⟨⟨fun pins s σ H Q I ⟨ρ, ah, σ', S, R, P⟩ => ?_⟩, trivial⟩
    exact isTrue_plain (thn (ha.run pins s σ H (fun xv H1 => ∃ ρ1 ah1 x', Sim L ρ1 H1 ah1 ∧ Rep L ρ1 H1 x' xv ∧ Post L E ρ1 H1 (tru x' ah1) (fun k _ _ H' => Q k H')) I ⟨ρ, ah, σ', S, R, (Post.bind P).imp fun x' ah1 ρ1 H1 st S1 P1 xv rx => ⟨ρ1, ah1, x', S1, rx, P1⟩⟩) fun v s1 ⟨xv, H1, I1, r1, ρ1, ah1, x', S1, rx, P1⟩ => tru_okP G I1 r1 S1 rx P1) (plainT_ok h.1 _)
  | .cmp op a b, C, X, E, e, G, K, h => by
    unfold mB at h
    split at h
    · simp only [Bool.and_eq_true, decide_eq_true_eq, Bool.not_eq_true'] at h
      obtain ⟨⟨⟨h1, h0⟩, h2⟩, h3⟩ := h
      subst h1
      refine ⟨PTimp (pt_cmpR (cop_ok G op) (pe_ok a G K h2) (pe_ok b G K h3) h0) fun σ H Q ⟨ρ, ah, σ', S, R, P⟩ => ⟨ρ, ah, σ', S, R, (Post.bind P).imp fun x ah1 ρ1 H1 st S1 P1 xv rx =>
        ⟨ρ1, ah1, σ', S1, SR.step S st R, P1.bind.imp fun y ah2 ρ2 H2 st2 S2 P2 yv ry => ⟨ρ2, ah2, x, y, S2, rx.step S1 st2, ry, (cop_bl P2).imp fun z ah3 ρ3 H3 st3 S3 P3 zv rz => ?_⟩⟩⟩, trivial⟩
      obtain ⟨⟨k, rfl⟩, P3⟩ := P3
      cases rz
      exact ⟨k, rfl, Post.ret (show Post L E ρ3 H3 (ret k ah3) _ from P3) S3⟩
    · cases h
  | .chn p q a b c, C, X, E, e, G, K, h => by
    unfold mB at h
    split at h
    · simp only [Bool.and_eq_true, decide_eq_true_eq, Bool.not_eq_true'] at h
      obtain ⟨⟨⟨⟨⟨h1, h1'⟩, h0⟩, h2⟩, h3⟩, h4⟩ := h
      subst h1 h1'
      refine ⟨PTimp (pt_chain (cop_ok G p) (cop_ok G q) (pe_ok a G K h2) (pe_ok b G K h3) (pe_ok c G K h4) h0) fun σ H Q ⟨ρ, ah, σ', S, R, P⟩ => ⟨ρ, ah, σ', S, R, (Post.bind P).imp fun x ah1 ρ1 H1 st S1 P1 xv rx =>
        ⟨ρ1, ah1, σ', S1, SR.step S st R, P1.bind.imp fun y ah2 ρ2 H2 st2 S2 P2 yv ry => ⟨ρ2, ah2, x, y, S2, rx.step S1 st2, ry, (cop_bl P2).imp fun z ah3 ρ3 H3 st3 S3 P3 zv rz => ?_⟩⟩⟩, trivial⟩
      obtain ⟨⟨k, rfl⟩, P3⟩ := P3
      cases rz
      refine ⟨k, rfl, ?_⟩
      have P3 : Post L E ρ3 H3 ((if k = true then ((evE cf c σ').bind fun w => (cop q y w).bind boolM) else ret false) ah3) _ := P3
      cases k with
      | false => exact ⟨false, rfl, Post.ret P3 S3⟩
      | true =>
        have R3 := SR.step S2 st3 (SR.step S1 st2 (SR.step S st R))
        refine ⟨ρ3, ah3, σ', S3, R3, (Post.bind P3).imp fun w ah4 ρ4 H4 st4 S4 P4 wv rw' => ⟨ρ4, ah4, y, w, S4, (ry.step S2 st3).step S3 st4, rw', (cop_bl P4).imp fun z ah5 ρ5 H5 st5 S5 P5 zv rz => ?_⟩⟩
        obtain ⟨⟨k, rfl⟩, P5⟩ := P5
        cases rz
        exact ⟨k, rfl, Post.ret (show Post L E ρ5 H5 (ret k ah5) _ from P5) S5⟩
    · cases h
  | .and_ a b, C, X, E, e, G, K, h => by
    have imp : ∀ σ H Q, dB L E (evB cf (.and_ a b)) σ H Q → tAnd (dB L E (evB cf a)) (dB L E (evB cf b)) σ H Q := fun σ H Q ⟨ρ, ah, σ', S, R, P⟩ => ⟨ρ, ah, σ', S, R, (Post.bind P).imp fun k ah1 ρ1 H1 st S1 P1 => by
      cases k with
      | true => exact ⟨ρ1, ah1, σ', S1, SR.step S st R, P1⟩
      | false => exact Post.ret P1 S1⟩
    unfold mB at h
    split at h
    · rw [Bool.and_eq_true] at h
      exact ⟨PTimp (pw_and (pt_ok a G K h.1).1 (pw_and1 (pt_ok b G K h.2).1)).pt imp, trivial⟩
    · rw [Bool.and_eq_true] at h
      refine ⟨PTimp (pw_and (pt_ok a G K h.1).1 ?_).pt imp, trivial⟩
      have := (pt_ok b G K h.2).1
      exact ⟨fun wh pins s σ H Q I q => this.run pins s σ H Q I q⟩
    · cases h
  | .or_ a b, C, X, E, e, G, K, h => by
    have imp : ∀ σ H Q, dB L E (evB cf (.or_ a b)) σ H Q → tOr (dB L E (evB cf a)) (dB L E (evB cf b)) σ H Q := fun σ H Q ⟨ρ, ah, σ', S, R, P⟩ => ⟨ρ, ah, σ', S, R, (Post.bind P).imp fun k ah1 ρ1 H1 st S1 P1 => by
      cases k with
      | true => exact Post.ret P1 S1
      | false => exact ⟨ρ1, ah1, σ', S1, SR.step S st R, P1⟩⟩
    unfold mB at h
    split at h
    · rw [Bool.and_eq_true] at h
      exact ⟨PTimp (pw_or (pt_ok a G K h.1).1 (pw_or1 (pt_ok b G K h.2).1)).pt imp, trivial⟩
    · rw [Bool.and_eq_true] at h
      refine ⟨PTimp (pw_or (pt_ok a G K h.1).1 ?_).pt imp, trivial⟩
      have := (pt_ok b G K h.2).1
      exact ⟨fun wh pins s σ H Q I q => this.run pins s σ H Q I q⟩
    · cases h
  | .not_ a, C, X, E, e, G, K, h => by
    unfold mB at h
    split at h
    · exact ⟨PTimp (pt_not (pt_ok a G K h).1) fun σ H Q ⟨ρ, ah, σ', S, R, P⟩ => ⟨ρ, ah, σ', S, R, (Post.bind P).imp fun k ah1 ρ1 H1 st S1 P1 => Post.ret P1 S1⟩, trivial⟩
    · cases h
theorem pf_ok : ∀ (ir : Ot) {C : Ct} {X : Cx} {E : XK} {es : List Expr}, Gd L T n cf E X → Ck C L T n X → mF C ir es = true → PTs X es (dB L E (evF cf ir))
  | .non, C, X, E, es, G, K, h => by
    unfold mF at h; rw [List.isEmpty_iff] at h
    subst h
    exact PTsimp pts_nil fun σ H Q ⟨ρ, ah, σ', S, R, P⟩ => Post.ret P S
  | .som a, C, X, E, es, G, K, h => by
    unfold mF at h
    split at h
    · exact pts_one (pt_ok a G K h).1
    · cases h
theorem pi_ok : ∀ (ir : Itr) {C : Ct} {X : Cx} {E : XK} {tg e : Expr}, Gd L T n cf E X → Ck C L T n X → mI C ir tg e = true → PI X tg e (dI L E (evI cf ir))
  | .vals a, C, X, E, tg, e, G, K, h => by
    unfold mI at h
    refine PIimp (pi_any (pe_ok a G K h)) fun σ H R' ⟨ρ, ah, σ', S, R, P⟩ => ⟨ρ, ah, σ', S, R, (Post.bind P).imp fun x ah1 ρ1 H1 st S1 P1 xv rx => ?_⟩
    cases rx with
    | tup e r => exact ⟨_, rfl, .inr ⟨⟨_, SqT.of e⟩, Post.ret P1 S1 _ (src_tup (fun ρ' H' st' => SqT.of (st'.keep _ _ e (S1.out e trivial) ⟨fun _ z => (nomatch z), fun _ z => (nomatch z)⟩)) S1 r)⟩⟩
    | kt e r => exact ⟨_, rfl, .inr ⟨⟨_, G.sqT (e H1)⟩, Post.ret P1 S1 _ (src_tup (fun ρ' H' st' => G.sqT (e H')) S1 r)⟩⟩
    | ref e =>
      obtain ⟨o, _, b1, P2⟩ := Post.rd S1 e P1
      cases b1 with
      | lst q r => exact ⟨_, rfl, .inl ⟨⟨_, SqL.of q⟩, P2.ret S1 _ (src_list e)⟩⟩
      | ro q r => exact ⟨_, rfl, .inl ⟨⟨_, .inl (.inr ⟨_, q⟩)⟩, P2.ret S1 _ (src_list e)⟩⟩
      | _ => exact False.elim P2
    | _ => exact False.elim P1
  | .rng1 a, C, X, E, tg, e, G, K, h => by
    unfold mI at h
    split at h
    · simp only [Bool.and_eq_true, decide_eq_true_eq] at h
      obtain ⟨⟨⟨h1, h2⟩, h3⟩, h4⟩ := h
      subst h1
      obtain ⟨g1, m1⟩ := K.free G h2
      refine PIimp (pi_range1 g1 m1 (pa_cons (pe_ok a G K h4) pa_nil (star_ok h3)) (star_ok h3)) fun σ H R' ⟨ρ, ah, σ', S, R, P⟩ => ⟨ρ, ah, σ', S, R, (Post.bind P).imp fun x ah1 ρ1 H1 st S1 P1 xv rx => ?_⟩
      cases rx with
      | int j =>
        obtain ⟨hn, P2⟩ := Post.guard (show Post L E ρ1 H1 (guardB (near j) (ret (rangeA 0 j.toNat, none)) ah1) _ from P1)
        obtain ⟨n1, n2⟩ := Bool.and_eq_true_iff.mp hn
        have n1 := of_decide_eq_true n1
        have n2 := of_decide_eq_true n2
        exact ⟨j, rfl, by omega, by omega, Post.ret P2 S1 _ src_range⟩
      | _ => exact False.elim P1
    · cases h
  | .rng2 a b, C, X, E, tg, e, G, K, h => by
    unfold mI at h
    split at h
    · simp only [Bool.and_eq_true, decide_eq_true_eq] at h
      obtain ⟨⟨⟨⟨⟨h1, h2⟩, h3⟩, h3'⟩, h4⟩, h5⟩ := h
      subst h1
      obtain ⟨g1, m1⟩ := K.free G h2
      refine PIimp (pi_range2 g1 m1 (pa_cons (pe_ok a G K h4) (pa_cons (pe_ok b G K h5) pa_nil (star_ok h3')) (star_ok h3)) (by rw [star_ok h3, star_ok h3']; rfl) (star_ok h3')) fun σ H R' ⟨ρ, ah, σ', S, R, P⟩ => ⟨ρ, ah, σ', S, R, (Post.bind P).imp fun x ah1 ρ1 H1 st S1 P1 xv rx => ⟨ρ1, ah1, σ', S1, SR.step S st R, P1.bind.imp fun y ah2 ρ2 H2 st2 S2 P2 yv ry => ?_⟩⟩
      cases rx with
      | int i =>
        cases ry with
        | int j =>
          obtain ⟨hn, P3⟩ := Post.guard (show Post L E ρ2 H2 (guardB (near i && near j) (ret (rangeA i (j - i).toNat, none)) ah2) _ from P2)
          obtain ⟨hi, hj⟩ := Bool.and_eq_true_iff.mp hn
          obtain ⟨n1, n2⟩ := Bool.and_eq_true_iff.mp hi
          obtain ⟨n3, n4⟩ := Bool.and_eq_true_iff.mp hj
          have n1 := of_decide_eq_true n1
          have n2 := of_decide_eq_true n2
          have n3 := of_decide_eq_true n3
          have n4 := of_decide_eq_true n4
          exact ⟨i, j, rfl, ⟨by omega, by omega, by omega, by omega⟩, Post.ret P3 S2 _ src_range⟩
        | _ => exact False.elim P2
      | _ => cases ry <;> exact False.elim P2
    · cases h
  | .enm a, C, X, E, tg, e, G, K, h => by
    unfold mI at h
    split at h
    · split at h
      · simp only [Bool.and_eq_true, decide_eq_true_eq] at h
        obtain ⟨⟨⟨h1, h2⟩, h3⟩, h4⟩ := h
        subst h1
        obtain ⟨g1, m1⟩ := K.free G h2
        refine PIimp (pi_enumA g1 m1 (pa_cons (pe_ok a G K h4) pa_nil (star_ok h3)) (star_ok h3)) fun σ H R' ⟨ρ, ah, σ', S, R, P⟩ => ⟨ρ, ah, σ', S, R, (Post.bind P).imp fun x ah1 ρ1 H1 st S1 P1 xv rx => ?_⟩
        cases rx with
        | tup e r => exact ⟨_, rfl, .inr ⟨⟨_, SqT.of e⟩, Post.ret P1 S1 _ (src_enumT (fun ρ' H' st' => SqT.of (st'.keep _ _ e (S1.out e trivial) ⟨fun _ z => (nomatch z), fun _ z => (nomatch z)⟩)) S1 r)⟩⟩
        | kt e r => exact ⟨_, rfl, .inr ⟨⟨_, G.sqT (e H1)⟩, Post.ret P1 S1 _ (src_enumT (fun ρ' H' st' => G.sqT (e H')) S1 r)⟩⟩
        | ref e =>
          obtain ⟨o, _, b1, P2⟩ := Post.rd S1 e P1.bind
          cases b1 with
          | lst q r => exact ⟨_, rfl, .inl ⟨⟨_, SqL.of q⟩, (P2.ret S1).ret S1 _ (src_enumL e)⟩⟩
          | ro q r => exact ⟨_, rfl, .inl ⟨⟨_, .inl (.inr ⟨_, q⟩)⟩, (P2.ret S1).ret S1 _ (src_enumL e)⟩⟩
          | _ => exact False.elim P2
        | _ => exact False.elim P1
      · cases h
    · cases h
  | .zip a b, C, X, E, tg, e, G, K, h => by
    unfold mI at h
    split at h
    · split at h
      · simp only [Bool.and_eq_true, decide_eq_true_eq] at h
        obtain ⟨⟨⟨⟨⟨h1, h2⟩, h3⟩, h3'⟩, h4⟩, h5⟩ := h
        subst h1
        obtain ⟨g1, m1⟩ := K.free G h2
        refine PIimp (RZ.pi_zipA g1 m1 (pa_cons (pe_ok a G K h4) (pa_cons (pe_ok b G K h5) pa_nil (star_ok h3')) (star_ok h3)) (star_ok h3) (stars_any (by simp [h3']))) fun σ H R' ⟨ρ, ah, σ', S, R, P⟩ => ⟨ρ, ah, σ', S, R, (Post.bind P).imp fun x ah1 ρ1 H1 st S1 P1 xv rx => ⟨ρ1, ah1, σ', S1, SR.step S st R, P1.bind.imp fun y ah2 ρ2 H2 st2 S2 P2 yv ry => ?_⟩⟩
        have rx := rx.step S1 st2
        cases rx with
        | tup e r =>
          cases ry with
          | tup e2 r2 => exact ⟨_, _, _, _, rfl, .inr ⟨SqT.of e, SqT.of e2, Post.ret P2 S2 _ (src_zip (fun ρ' H' st' => SqT.of (st'.keep _ _ e (S2.out e trivial) ⟨fun _ z => (nomatch z), fun _ z => (nomatch z)⟩)) (fun ρ' H' st' => SqT.of (st'.keep _ _ e2 (S2.out e2 trivial) ⟨fun _ z => (nomatch z), fun _ z => (nomatch z)⟩)) S2 r r2)⟩⟩
          | _ => exact False.elim P2
        | _ => cases ry <;> exact False.elim P2
      · cases h
    · cases h
theorem pg_ok : ∀ (ir : Tg) (vs : List Nat) {C : Ct} {X : Cx} {E : XK} {e : Expr}, Gd L T n cf E X → Ck C L T n X → mT C vs ir e = true → PG X e (dG L E vs (evT cf ir))
  | .name i, vs, C, X, E, e, G, K, h => by
    unfold mT at h
    split at h
    · rename_i x p
      simp only [Bool.and_eq_true, decide_eq_true_eq] at h
      obtain ⟨⟨h1, h2⟩, h3⟩ := h
      have hl : Loc X.env.scope x ∧ (X.fn x = true ∨ X.env.scope.names.lookup x = some .local) := by
        rw [K.sc, K.fn]
        unfold locB at h2
        split at h2
        · exact ⟨.inl (by assumption), .inr (by assumption)⟩
        · exact ⟨.inr (by assumption), .inl h2⟩
        · cases h2
      refine PGimp (pg_name (i := i) G.nd (by rw [K.N]; exact h1) hl.1 hl.2) fun v σ H Q ⟨ρ, ah, σ', v', S, R, rv, P⟩ => ?_
      exact Post.ret P S _ (SR.set rv i R) (wipe_own h3)
    · cases h
  | .tup ts, vs, C, X, E, e, G, K, h => by
    unfold mT at h
    split at h
    · obtain ⟨hp, hall, hln⟩ := pgs_ok ts vs G K h
      have hlen : ∀ {ρ : List Addr} {H : Hp} {zs : List Vl} {ys : List V}, (zs.length == lenT ts) = true → Reps L ρ H zs ys → ys.length = lenT ts := fun g r => by rw [← r.length]; exact beq_iff_eq.mp g
      refine PGimp (pg_tup G.calm hp asgs_len (asgs_find hall)) fun v σ H Q ⟨ρ, ah, σ', v', S, R, rv, P⟩ => ?_
      have P2 := Post.bind P
      cases rv with
      | tup e r =>
        obtain ⟨hg, P3⟩ := Post.guard (P2.ret S)
        exact ⟨_, _, rfl, SqT.of e, (hlen hg r).trans hln, ρ, ah, σ', _, S, R, r, P3⟩
      | kt e r =>
        obtain ⟨hg, P3⟩ := Post.guard (P2.ret S)
        exact ⟨_, _, rfl, G.sqT (e H), (hlen hg r).trans hln, ρ, ah, σ', _, S, R, r, P3⟩
      | _ => exact False.elim P2
    · cases h
  | .sub o i, vs, C, X, E, e, G, K, h => by
    unfold mT at h
    split at h
    · simp only [Bool.and_eq_true] at h
      obtain ⟨⟨h1, h2⟩, h3⟩ := h
      refine PGimp (pg_sub (pe_ok o G K h2) (pe_ok i G K h3) (set_ok G) (asub_ok h1)) fun v σ H Q ⟨ρ, ah, σ', v', S, R, rv, P⟩ => ⟨ρ, ah, σ', S, R, (Post.bind P).imp fun x ah1 ρ1 H1 st S1 P1 xv rx =>
        ⟨ρ1, ah1, σ', S1, SR.step S st R, P1.bind.imp fun y ah2 ρ2 H2 st2 S2 P2 yv ry => ⟨ρ2, ah2, x, y, v', S2, rx.step S1 st2, ry, (rv.step S st).step S1 st2, P2.bind.imp fun _ ah3 ρ3 H3 st3 S3 P3 => ?_⟩⟩⟩
      exact P3.ret S3 _ (SR.step S2 st3 (SR.step S1 st2 (SR.step S st R))) rfl
    · cases h
  | .fld tb f o, vs, C, X, E, e, G, K, h => by
    unfold mT at h
    split at h
    · simp only [Bool.and_eq_true, decide_eq_true_eq] at h
      obtain ⟨⟨⟨h1, h2⟩, h3⟩, h4⟩ := h
      subst h1
      refine PGimp (pg_sl (pe_ok o G K h4)) fun v σ H Q ⟨ρ, ah, σ', v', S, R, rv, P⟩ => ⟨ρ, ah, σ', S, R, (Post.bind P).imp fun x ah1 ρ1 H1 st S1 P1 xv rx => ?_⟩
      obtain ⟨a, Cc, dx, p, ws, i, ah2, ex, hs, c1, c2, st2, S2, P2⟩ := setF_ok G K (snB_of h3) S1 rx (rv.step S st) P1.bind
      exact ⟨a, Cc, dx, p, ws, i, ex, hs, c1, c2, Post.ret P2 S2 σ (SR.step S1 st2 (SR.step S st R)) rfl⟩
    · cases h
theorem pgs_ok : ∀ (ir : Tgs) (vs : List Nat) {C : Ct} {X : Cx} {E : XK} {es : List Expr}, Gd L T n cf E X → Ck C L T n X → mTs C vs ir es = true → PGs X es (dGs L E vs (evTs cf ir)) ∧ es.all nst = true ∧ lenT ir = es.length
  | .nil, vs, C, X, E, es, G, K, h => by
    unfold mTs at h; rw [List.isEmpty_iff] at h
    subst h
    refine ⟨PGsimp pgs_nil fun v σ H Q ⟨ρ, ah, σ', v', S, R, rv, P⟩ => ?_, rfl, rfl⟩
    · obtain ⟨h1, P⟩ := Post.guard P
      rw [List.isEmpty_iff] at h1
      subst h1
      cases rv
      exact ⟨rfl, Post.ret P S _ R rfl⟩
  | .cons t ts, vs, C, X, E, es, G, K, h => by
    unfold mTs at h
    split at h
    · simp only [Bool.and_eq_true] at h
      obtain ⟨⟨h1, h2⟩, h3⟩ := h
      obtain ⟨hp, hall, hlen⟩ := pgs_ok ts vs G K h3
      refine ⟨PGsimp (pgs_cons (pg_ok t vs G K h2) hp (by rw [asgs_cons h1]; rfl)) fun v σ H Q ⟨ρ, ah, σ', v', S, R, rv, P⟩ => ?_, by rw [List.all_cons, h1, hall]; rfl, by rw [lenT, hlen]; rfl⟩
      · cases rv with
        | nil => exact False.elim P
        | cons a r =>
          refine ⟨_, _, rfl, ρ, ah, σ', _, S, R, a, (Post.bind P).imp fun σ1 ah1 ρ1 H1 st S1 P1 σ2 R2 hw => ⟨ρ1, ah1, σ1, _, S1, R2, r.step S st, P1.imp fun σ3 ah3 ρ3 H3 st3 S3 q σ4 R4 hw4 => q σ4 R4 (hw4.trans hw)⟩⟩
    · cases h
end
end
end Ip

set_option Elab.async false
set_option linter.all false
set_option maxRecDepth 100000
set_option maxHeartbeats 4000000
namespace Ip
open PySem PySem.Spec PyProof.Rows L2

/-! ### statements -/
def ncomp : Expr → Bool
  | .ListComp .. => false
  | .SetComp .. => false
  | .DictComp .. => false
  | _ => true
def ntup : Expr → Bool
  | .Tuple .. => false
  | _ => true
def isNm : Expr → Bool
  | .Name .. => true
  | _ => false
/-- no exchange of stores -/
def swB (t e : Expr) : Bool := match t, e with
  | .Tuple ts _ _, .Tuple vs _ _ => vs.all nst && (ts.length != vs.length || ts.any fun t => !isNm t)
  | .List _ _, _ => false
  | _, _ => true
def tgN : Tg → List Nat
  | .name i => [i]
  | _ => []
mutual
def tgAll : Tg → List Nat
  | .name i => [i]
  | .tup ts => tgsAll ts
  | .sub _ _ => []
  | .fld _ _ _ => []
def tgsAll : Tgs → List Nat
  | .nil => []
  | .cons t ts => tgAll t ++ tgsAll ts
end
def lclB (C : Ct) (x : Str) : Bool := match C.sc.names.lookup x with
  | some .local => true
  | _ => false
def isFn (C : Ct) : Bool := match C.sc.kind with
  | .function => true
  | _ => false
def isC : Ex → Bool
  | .lc .. => true
  | .lc2 .. => true
  | .dc .. => true
  | _ => false
def hidB (y : Str) (scope : Scope) : Bool := scope.names.any fun (n, k) => n == y && (k == .local || k == .cell)
/-- the value and the name exchange places -/
def swapT (C : Ct) : Expr → Expr → Bool
  | .Name y py, .ListComp _ _ scope p => isFn C && lclB C y && (py.line == p.line) && !hidB y scope
  | .Name y py, .DictComp _ _ _ scope p => isFn C && lclB C y && (py.line == p.line) && !hidB y scope
  | _, _ => false
def noSw (C : Ct) (t e : Expr) : Bool := ncomp e || match t with
  | .Name y py => (match C.sc.names.lookup y with
    | some .local => false
    | _ => true) || !(py.line == e.pos.line)
  | _ => true
mutual
def mS (C : Ct) (xn : List (Nat × Str)) : Sx → Stmt → Bool
  | .dead, _ => true
  | .expr a, s => match s with
    | .Expr e _ => ncomp e && mE C a e
    | _ => false
  | .asg t a, s => match s with
    | .Assign [tg] e _ => match swapT C tg e with
      | true => (match t, tg with
        | .name i, .Name y _ => isC a && decide (C.N[i]? = some y) && mE C a e
        | _, _ => false)
      | false => noSw C tg e && swB tg e && nst tg && mE C a e && mT C (tgAll t) t tg
    | _ => false
  | .par i j a b, s => match s with
    | .Assign [.Tuple [.Name x px, .Name y py] _ _] (.Tuple [e, f] _ _) _ => isFn C && lclB C x && lclB C y && decide (C.N[i]? = some x) && decide (C.N[j]? = some y) && decide (i ≠ j) && (py.line == px.line) && nst e && nst f &&
      !([e, f].all (foldedForSure 8)) && !([e, f].all (constantsAlone 8)) && mE C a e && mE C b f
    | _ => false
  | .aug i op a, s => match s with
    | .AugAssign (.Name x _) o e _ => decide (o = opOf op) && decide (C.N[i]? = some x) && locB C x && mE C a e
    | _ => false
  | .augS o i op a, s => match s with
    | .AugAssign (.Subscript x y _) p e _ => decide (p = opOf op) && nsl y && mE C o x && mE C i y && mE C a e
    | _ => false
  | .ret a, s => match s with
    | .Return (some e) _ => mE C a e
    | _ => false
  | .ret0, s => match s with
    | .Return none _ => true
    | _ => false
  | .if_ c a b, s => match s with
    | .If e x y _ => mB C c e && mSs C xn a x && mSs C xn b y
    | _ => false
  | .for_ t it b, s => match s with
    | .For tg e body [] _ => nset e && mI C it tg e && mT C (tgAll t) t tg && mSs C xn b body
    | _ => false
  | .while_ c b, s => match s with
    | .While e body [] _ => mB C c e && mSs C xn b body
    | _ => false
  | .raise c es, s => match es with
    | .nil => (match s with
      | .Raise (some (.Call (.Name x _) [.Constant (.str _) _ _] [] _)) none _ => glB C.sc x && decide ((c, x) ∈ xn)
      | _ => false)
    | .cons a .nil => (match s with
      | .Raise (some (.Call (.Name x _) [e] [] _)) none _ => glB C.sc x && nmB x && nst e && decide ((c, x) ∈ C.xp) && mE C a e
      | _ => false)
    | _ => false
  | .pass, s => match s with
    | .Pass _ => true
    | _ => false
  | .brk, s => match s with
    | .Break _ => true
    | _ => false
  | .cont, s => match s with
    | .Continue _ => true
    | _ => false
def mSs (C : Ct) (xn : List (Nat × Str)) : Sxs → List Stmt → Bool
  | .nil, ss => ss.isEmpty
  | .cons x xs, ss => match ss with
    | s :: ss => mS C xn x s && mSs C xn xs ss
    | [] => false
end
theorem sw1_ok {e : Expr} {t : Option Expr} {l : Nat} {env : Env} (h : ncomp e = true) : swapsWith e t l env = pure false := by
  cases e <;> first | rfl | cases h
theorem sw0_ok {C : Ct} {e t : Expr} {l : Nat} {env : Env} (hs : env.scope = C.sc) (h : noSw C t e = true) : swapsWith e (some t) l env = pure false := by
  unfold noSw at h
  rw [Bool.or_eq_true] at h
  rcases h with h | h
  · exact sw1_ok h
  · cases t with
    | Name y py =>
      rw [Bool.or_eq_true] at h
      rcases h with h | h
      · have hk : (env.kindOf y == some .local) = false := by
          unfold Env.kindOf
          rw [hs]
          revert h
          cases hq : C.sc.names.lookup y with
          | none => intro _; rfl
          | some k => cases k <;> first | (intro z; cases z; done) | (intro _; rfl)
        cases e <;> first | rfl | (unfold swapsWith; simp only [hk, Bool.and_false, Bool.false_and])
      · have hl : (py.line == e.pos.line) = false := by
          revert h
          cases (py.line == e.pos.line) <;> simp
        cases e <;> first | rfl | (unfold swapsWith; simp only [hl, Bool.and_false, Bool.false_and])
    | _ => cases e <;> rfl
theorem kind_fn {env : Env} (h : env.scope.kind = .function) : env.blockKind = .function := by unfold Env.blockKind; rw [h]; rfl
theorem filt_len {α β : Type} (f : α → Option β) : ∀ {l : List α}, (l.filterMap f).length ≤ l.length
  | [] => Nat.le_refl _
  | x :: l => by
    rw [List.filterMap_cons]
    have := filt_len f (l := l)
    split
    · exact Nat.le_succ_of_le this
    · exact Nat.succ_le_succ this
theorem filt_lt {α β : Type} (f : α → Option β) (p : α → Bool) (h : ∀ x, p x = true → f x = none) : ∀ {l : List α}, l.any p = true → (l.filterMap f).length < l.length
  | [], e => by simp at e
  | x :: l, e => by
    rw [List.filterMap_cons]
    rw [List.any_cons, Bool.or_eq_true] at e
    rcases e with e | e
    · rw [h x e]
      exact Nat.lt_succ_of_le (filt_len f)
    · have := filt_lt f p h e
      split
      · exact Nat.lt_succ_of_lt this
      · exact Nat.succ_lt_succ this
theorem stars_no {vs : List Expr} (h : vs.all nst = true) : (vs.any fun
    | .Starred .. => true
    | _ => false) = false := by
  rw [List.any_eq_false]
  intro x hx
  rw [List.all_eq_true] at h
  have := h x hx
  cases x with
  | Starred => cases this
  | _ => intro z; cases z
theorem swap_none {t e : Expr} {env : Env} (h : swB t e = true) : swappedStores [t] e env = pure none := by
  unfold swappedStores
  cases t with
  | Tuple ts k p =>
    cases e with
    | Tuple vs k2 p2 =>
      simp only [swB, Bool.and_eq_true, Bool.or_eq_true] at h
      obtain ⟨h1, h2⟩ := h
      have hs := stars_no h1
      have hl : (ts.length == vs.length) = true → (ts.filterMap fun
          | .Name id pos => if env.kindOf id == some .local && pos.line == (ts.head?.map (·.pos.line)).getD 0 then some id else none
          | _ => none).length ≠ ts.length := fun e2 => by
        rcases h2 with h2 | h2
        · rw [bne, e2] at h2; cases h2
        · refine Nat.ne_of_lt (filt_lt _ (fun t => !isNm t) (fun x hx => ?_) h2)
          cases x <;> first | rfl | (simp [isNm] at hx)
      by_cases e1 : (ts.length == vs.length) = true
      · have hl := hl e1
        simp only [hs]
        simp only [bind, pure] at *
        split
        · rfl
        · split
          · rename_i z
            exact nomatch (hs.symm.trans z)
          · split
            · rfl
            · rename_i q1 q2 q3
              exfalso
              apply q3
              rw [Bool.or_eq_true]
              left
              exact bne_iff_ne.mpr hl
      · have : (vs.length != ts.length) = true := bne_iff_ne.mpr fun z => e1 (beq_iff_eq.mpr z.symm)
        simp [this]
    | _ => rfl
  | List ts p => cases h
  | _ => rfl
end Ip

set_option Elab.async false
set_option linter.all false
set_option maxRecDepth 100000
set_option maxHeartbeats 8000000
namespace Ip
open PySem PySem.Spec PyProof.Rows L2

theorem swap_par {x y : Str} {px py pt pt2 : Pos} {kt k2 : Nat} {e f : Expr} {env : Env} (hk : env.scope.kind = .function) (hx : env.scope.names.lookup x = some .local) (hy : env.scope.names.lookup y = some .local) (hl : (py.line == px.line) = true) (hxy : x ≠ y)
    (he : nst e = true) (hf : nst f = true) (h8 : [e, f].all (foldedForSure 8) = false) (h9 : [e, f].all (constantsAlone 8) = false) :
    swappedStores [.Tuple [.Name x px, .Name y py] kt pt] (.Tuple [e, f] k2 pt2) env = pure (some [x, y]) := by
  have kx : env.kindOf x = some .local := hx
  have ky : env.kindOf y = some .local := hy
  have hb := kind_fn hk
  have hs := stars_no (vs := [e, f]) (by simp [he, hf])
  have hn : ([Expr.Name x px, Expr.Name y py].filterMap fun
      | .Name id pos => if env.kindOf id == some .local && pos.line == (([Expr.Name x px, Expr.Name y py].head?.map (·.pos.line)).getD 0) then some id else none
      | _ => none) = [x, y] := by
    have : (px.line == px.line) = true := beq_self_eq_true _
    simp [kx, ky, Expr.pos, eq_of_beq hl]
  have hd : [x, y].eraseDups = [x, y] := by
    have : (y == x) = false := beq_eq_false_iff_ne.mpr (Ne.symm hxy)
    simp [List.eraseDups, List.eraseDupsBy, List.eraseDupsBy.loop, this]
  unfold swappedStores
  show (if (!([Expr.Name x px, Expr.Name y py].length == 2 || [Expr.Name x px, Expr.Name y py].length == 3) || [e, f].length != [Expr.Name x px, Expr.Name y py].length || env.blockKind != .function) = true then _ else _) = _
  have c1 : (!([Expr.Name x px, Expr.Name y py].length == 2 || [Expr.Name x px, Expr.Name y py].length == 3) || [e, f].length != [Expr.Name x px, Expr.Name y py].length || env.blockKind != .function) = false := by
    rw [hb]; rfl
  rw [c1]
  simp only [Bool.false_eq_true, if_false]
  refine Eq.trans (if_neg (fun z => ?_)) ?_
  · exact nomatch (hs.symm.trans z)
  · have c2 : (([Expr.Name x px, Expr.Name y py].filterMap fun
      | .Name id pos => if env.kindOf id == some .local && pos.line == (([Expr.Name x px, Expr.Name y py].head?.map (·.pos.line)).getD 0) then some id else none
      | _ => none).length != [Expr.Name x px, Expr.Name y py].length || ([Expr.Name x px, Expr.Name y py].filterMap fun
      | .Name id pos => if env.kindOf id == some .local && pos.line == (([Expr.Name x px, Expr.Name y py].head?.map (·.pos.line)).getD 0) then some id else none
      | _ => none).eraseDups.length != ([Expr.Name x px, Expr.Name y py].filterMap fun
      | .Name id pos => if env.kindOf id == some .local && pos.line == (([Expr.Name x px, Expr.Name y py].head?.map (·.pos.line)).getD 0) then some id else none
      | _ => none).length) = false := by
      rw [hn, hd]; rfl
    refine Eq.trans (if_neg (fun z => ?_)) ?_
    · exact nomatch (c2.symm.trans z)
    · rw [h8, h9]
      simp only [Bool.false_eq_true, if_false]
      exact congrArg (fun z => pure (some z)) hn
section
variable {L : Lw} {T : List Fn} {n : Nat} {cf : Orc} {E : XK} {X : Cx} {C : Ct}
theorem get_item (G : Gd L T n cf E X) : PGet X (rD L E getV) := by
  intro pins s σ H x y v u Q I rx ry ⟨ρ, ah, x', y', S, hx, hy, P⟩
  have ln := line63
  have dic : ∀ {a : Addr} {o : Ob} (b : ObR L ρ H o a) (hh : x = .ref a), Post L E ρ H ((dGet o y').bind optM ah) (VQ L Q) →
      wpAny (model X.prog X.w) X.A (getItem v u) (L2.EP X pins σ Q) X.xe s := by
    intro a o b hh P
    subst hh
    obtain ⟨r1, r2, g, h, P⟩ := dget_ok S b hy (Post.bind P)
    obtain ⟨z, hz, P9⟩ := Post.optM (Φ := VQ L Q) P S
    subst hz
    cases r2 with
    | none => exact False.elim h
    | some w =>
      have q : Q w H := P9 w h
      cases (show v = Value.ref a from rx)
      exact d_getItem G.u1 I g ry fun w' s' I' r' => ⟨w, H, I', r', q⟩
  have lst : ∀ {a : Addr} {xs : List Vl} {vs : List V} {k : Int} {z : Vl}, v = .ref a → SqL X.K H a vs → Reps L ρ H xs vs → y' = .int k → atI xs k = some z → (∀ w, Rep L ρ H z w → Q w H) → wpAny (model X.prog X.w) X.A (getItem v u) (L2.EP X pins σ Q) X.xe s := by
    intro a xs vs k z ev hq r ey hz q
    subst ev ey
    cases hy
    obtain ⟨t, rfl⟩ := ry
    obtain ⟨w, hw, rw'⟩ := r.at hz
    obtain ⟨its, rv, pl, hsz⟩ := I.list hq
    obtain ⟨j, h1, h2, h3, h4, h5⟩ := atI_get hw
    obtain ⟨w2, ew, rw2⟩ := rv.get h2
    have hl := rv.length
    have fin : L2.EP X pins σ Q w2 s := ⟨w, H, I, rw2, q w rw'⟩
    by_cases h0 : 0 ≤ k
    · have hj : k.toNat = j := by
        rw [seqIndex_of h0 h5] at h1
        exact Option.some.inj h1
      exact wpAny_getItem_list pl.isList h0 (by omega) (by rw [hj]; simpa using ew) fin
    · have hj : (k + (its.toArray.size : Int)).toNat = j := by
        rw [seqIndex_neg (by omega) h4] at h1
        rw [List.size_toArray, ← hl]
        exact Option.some.inj h1
      exact wpAny_getItem_list_neg pl.isList (by omega) (by rw [List.size_toArray] <;> omega) (by omega) (by rw [hj]; simpa using ew) fin
  cases hx with
  | ref e =>
    obtain ⟨o, _, b1, P⟩ := Post.rd S e P
    cases b1 with
    | lst q r =>
      by_cases hk : ∃ k, y' = .int k
      · obtain ⟨k, ey⟩ := hk
        subst ey
        obtain ⟨z, hz, P9⟩ := Post.optM (Φ := VQ L Q) P S
        exact lst rx (SqL.of q) r rfl hz P9
      · cases y' <;> first | exact absurd ⟨_, rfl⟩ hk | exact False.elim P
    | ro q r =>
      by_cases hk : ∃ k, y' = .int k
      · obtain ⟨k, ey⟩ := hk
        subst ey
        obtain ⟨z, hz, P9⟩ := Post.optM (Φ := VQ L Q) P S
        exact lst rx (.inl (.inr ⟨_, q⟩)) r rfl hz P9
      · cases y' <;> first | exact absurd ⟨_, rfl⟩ hk | exact False.elim P
    | dK q r => exact dic (.dK q r) rfl P
    | dT q r => exact dic (.dT q r) rfl P
    | _ => exact False.elim P
  | _ => exact False.elim P
end
end Ip

set_option Elab.async false
set_option linter.all false
set_option maxRecDepth 100000
set_option maxHeartbeats 8000000
namespace Ip
open PySem PySem.Spec PyProof.Rows L2

def SQ (L : Lw) (D : Ends) : Fl × Sg → AH → List Addr → Hp → Prop := fun p _ ρ H => match p.1 with
  | .nx => ∀ σ, EnvR L ρ H p.2 σ → D.nx σ H
  | .bk => ∀ σ, EnvR L ρ H p.2 σ → D.bk σ H
  | .ct => ∀ σ, EnvR L ρ H p.2 σ → D.ct σ H
  | .rt v' => ∀ v, Rep L ρ H v' v → D.rt v H
def dS (L : Lw) (E : XK) (f : Sg → M (Fl × Sg)) : TS := fun D σ H => ∃ ρ ah σ', Sim L ρ H ah ∧ EnvR L ρ H σ' σ ∧ Post L E ρ H (f σ' ah) (SQ L D)
structure Gs (L : Lw) (T : List Fn) (n : Nat) (cf : Orc) (E : XK) (X : Cx) : Prop where
  G : Gd L T n cf E X
  po : PassesOwn (model X.prog X.w) X.A X.env X.xe
  tk : Takes X (fun cls d _ H => E cls d H)
def Xk (L : Lw) (xn : List (Nat × Str)) : Prop := ∀ q ∈ xn, ∀ (X : Cx), X.K = L.K → X.mg = L.mg → Gl X q.2 → ∀ (p : Pos) (m : Str) (j : Nat) (p2 pos : Pos), PMk X (.Call (.Name q.2 p) [.Constant (.str m) j p2] [] pos) (fun _ H Q => Q (.ref (L.ca q.1)) none H)
theorem PSimp {X : Cx} {s : Stmt} {t u : TS} (h : PS X s t) (k : ∀ D σ H, u D σ H → t D σ H) : PS X s u := ⟨fun pins s σ H D I q => h.run pins s σ H D I (k D σ H q)⟩
theorem PSsimp {X : Cx} {s : List Stmt} {t u : TS} (h : PSs X s t) (k : ∀ D σ H, u D σ H → t D σ H) : PSs X s u := ⟨fun pins s σ H D I q => h.run pins s σ H D I (k D σ H q)⟩
section
variable {L : Lw} {T : List Fn} {n : Nat} {cf : Orc} {E : XK} {X : Cx} {ρ : List Addr} {H : Hp} {ah : AH} {α β : Type}
theorem flp_den {fi : Sg → M (List Vl × Gu)} {ft : Vl → Sg → M Sg} {fb : Sg → M (Fl × Sg)} {vs : List Nat} {D : Ends} {σ : L2.St} {H : Hp}
    (h : dS L E (fun σ => (fi σ).bind fun p => flp p.2 (fun v σ1 => (ft v σ1).bind fun σ2 => fb σ2) p.1 σ) D σ H) :
    tFor (dI L E fi) (dG L E vs ft) (dS L E fb) D σ H := by
  obtain ⟨ρ, ah, σ', S, R, P⟩ := h
  refine ⟨ρ, ah, σ', S, R, P.bind.imp fun p ah1 ρ1 H1 st1 S1 P1 J hJ => ?_⟩
  refine ⟨fun i m σ H => m = p.1.length - i ∧ i ≤ p.1.length ∧ ∃ ρi ahi σi, Step ρ1 H1 ρi H ∧ Sim L ρi H ahi ∧ EnvR L ρi H σi σ ∧ Post L E ρi H (flp p.2 (fun v σ1 => (ft v σ1).bind fun σ2 => fb σ2) (p.1.drop i) σi ahi) (SQ L D), ⟨p.1.length, by simp, Nat.zero_le _, ρ1, ah1, σ', Step.refl, S1, SR.step S st1 R, P1⟩, ?_⟩
  rintro i m σ0 Hi ⟨rfl, hi, ρi, ahi, σi, sti, Si, Ri, Pi⟩
  have hchk : ∀ {f : Unit → M (Fl × Sg)}, Post L E ρi Hi (((chk p.2).bind f) ahi) (SQ L D) → chk p.2 ahi = .ok () ahi ∧ Post L E ρi Hi (f () ahi) (SQ L D) := fun {f} P => by
    have hc : chk p.2 ahi = .ok () ahi := chk_none fun z => by
      unfold M.bind at P
      simp only [z] at P
      exact P
    refine ⟨hc, ?_⟩
    unfold M.bind at P
    simp only [hc] at P
    exact P
  by_cases hlt : i < p.1.length
  · right
    rw [List.drop_eq_getElem_cons hlt, flp] at Pi
    obtain ⟨hc, Pn⟩ := hchk Pi
    have hx : p.1[i]? = some p.1[i] := List.getElem?_eq_getElem hlt
    obtain ⟨hgo, hy⟩ := (hJ i ρi Hi ahi sti Si hc).1 _ hx
    refine ⟨hgo, fun σ H' => i + 1 ≤ p.1.length ∧ ∃ ρi ahi σi, Step ρ1 H1 ρi H' ∧ Sim L ρi H' ahi ∧ EnvR L ρi H' σi σ ∧ Post L E ρi H' (flp p.2 (fun v σ1 => (ft v σ1).bind fun σ2 => fb σ2) (p.1.drop (i + 1)) σi ahi) (SQ L D), fun σ' H' h' => ⟨p.1.length - (i + 1), by omega, rfl, h'⟩, fun v H2 hv => ?_⟩
    obtain ⟨st2, S2, rv⟩ := hy v H2 hv
    have Pm := (Post.move Pn S2 st2).bind
    refine ⟨ρi, ahi, σi, p.1[i], S2, SR.step Si st2 Ri, rv, Pm.bind.imp fun σ3 ah3 ρ3 H3 st3 S3 P3 σ4 R4 _ => ⟨ρ3, ah3, σ3, S3, R4, P3.imp fun q ah5 ρ5 H5 st5 S5 P5 => ?_⟩⟩
    have stA := sti.trans Si (st2.trans S2 (st3.trans S3 st5))
    obtain ⟨f, σ5⟩ := q
    cases f with
    | nx => exact fun σ R => ⟨hlt, ρ5, ah5, σ5, stA, S5, R, P5⟩
    | ct => exact fun σ R => ⟨hlt, ρ5, ah5, σ5, stA, S5, R, P5⟩
    | bk => exact fun σ R => Post.ret P5 S5 σ R
    | rt r => exact fun v rv => Post.ret P5 S5 v rv
  · left
    have ei : i = p.1.length := by omega
    subst ei
    rw [List.drop_length, flp] at Pi
    obtain ⟨hc, Pn⟩ := hchk Pi
    exact ⟨(hJ _ ρi Hi ahi sti Si hc).2 (Nat.le_refl _), Pn.ret Si _ Ri⟩
theorem wlp_den {fc : Sg → M Bool} {fb : Sg → M (Fl × Sg)} {D : Ends} {σ : L2.St} {H : Hp} {k : Nat} (h : dS L E (wlp fc fb k) D σ H) : tWhile (dB L E fc) (dS L E fb) D σ H := by
  refine ⟨fun m σ H => dS L E (wlp fc fb m) D σ H, ⟨k, h⟩, fun m σ H ⟨ρ, ah, σ', S, R, P⟩ => ?_⟩
  cases m with
  | zero => exact False.elim P
  | succ m =>
    rw [wlp] at P
    refine ⟨ρ, ah, σ', S, R, P.bind.imp fun k ah1 ρ1 H1 st1 S1 P1 => ?_⟩
    cases k with
    | true =>
      simp only [if_true] at P1 ⊢
      refine ⟨fun σ H => dS L E (wlp fc fb m) D σ H, fun σ' H' h' => ⟨m, Nat.lt_succ_self _, h'⟩, ρ1, ah1, σ', S1, SR.step S st1 R, P1.bind.imp fun q ah5 ρ5 H5 st5 S5 P5 => ?_⟩
      obtain ⟨f, σ5⟩ := q
      cases f with
      | nx => exact fun σ R => ⟨ρ5, ah5, σ5, S5, R, P5⟩
      | ct => exact fun σ R => ⟨ρ5, ah5, σ5, S5, R, P5⟩
      | bk => exact fun σ R => Post.ret P5 S5 σ R
      | rt r => exact fun v rv => Post.ret P5 S5 v rv
    | false =>
      simp only [Bool.false_eq_true, if_false] at P1 ⊢
      exact Post.ret P1 S1 _ (SR.step S st1 R)
theorem lcl_ok {C : Ct} (K : Ck C L T n X) {x : Str} (h : lclB C x = true) : X.env.scope.names.lookup x = some .local := by
  rw [K.sc]
  unfold lclB at h
  split at h
  · assumption
  · cases h
theorem isFn_ok {C : Ct} (K : Ck C L T n X) (h : isFn C = true) : X.env.scope.kind = .function := by
  rw [K.sc]
  unfold isFn at h
  split at h
  · assumption
  · cases h
theorem loc_ok {C : Ct} (K : Ck C L T n X) {x : Str} (h2 : locB C x = true) : Loc X.env.scope x ∧ (X.fn x = true ∨ X.env.scope.names.lookup x = some .local) := by
  rw [K.sc, K.fn]
  unfold locB at h2
  split at h2
  · exact ⟨.inl (by assumption), .inr (by assumption)⟩
  · exact ⟨.inr (by assumption), .inl h2⟩
  · cases h2
theorem aug_st {o i : Expr} (h : nsl i = true) : ∀ ov iv new, augStore i ov iv new = (do holding [new, ov, iv] (setItem ov iv new); release [new, ov, iv] []; pure .next) := fun ov iv new => by
  cases i <;> first | rfl | cases h
set_option maxHeartbeats 16000000 in
mutual
theorem ps_ok : ∀ (ir : Sx) {C : Ct} {xn : List (Nat × Str)} {X : Cx} {E : XK} {s : Stmt}, Gs L T n cf E X → Ck C L T n X → Xk L xn → mS C xn ir s = true → PS X s (dS L E (evS cf ir))
  | .dead, _, _, _, _, _, _, _, _, _ => ⟨fun _ _ _ _ _ _ ⟨_, _, _, _, _, P⟩ => False.elim P⟩
  | .expr a, C, xn, X, E, s, G, K, xk, h => by
    unfold mS at h
    split at h
    · rw [Bool.and_eq_true] at h
      exact PSimp (ps_expr (pe_ok a G.G K h.2) (sw1_ok h.1)) fun D σ H ⟨ρ, ah, σ', S, R, P⟩ => ⟨ρ, ah, σ', S, R, (Post.bind P).imp fun x ah1 ρ1 H1 st S1 P1 xv rx => Post.ret P1 S1 σ (SR.step S st R)⟩
    · cases h
  | .asg t a, C, xn, X, E, s, G, K, xk, h => by
    have imp : ∀ {vs : List Nat} (D : Ends) (σ : L2.St) (H : Hp), dS L E (evS cf (.asg t a)) D σ H → tAsg (dE L E (evE cf a)) (dG L E vs (evT cf t)) D σ H := fun D σ H ⟨ρ, ah, σ', S, R, P⟩ => ⟨ρ, ah, σ', S, R, (Post.bind P).imp fun x ah1 ρ1 H1 st S1 P1 xv rx =>
        ⟨ρ1, ah1, σ', x, S1, SR.step S st R, rx, P1.bind.imp fun σ2 ah2 ρ2 H2 st2 S2 P2 σ3 R3 _ => Post.ret P2 S2 σ3 R3⟩⟩
    unfold mS at h
    split at h
    · rename_i tg0 e0 sp
      split at h
      · rename_i hsw
        split at h
        · rename_i i y py
          simp only [Bool.and_eq_true, decide_eq_true_eq] at h
          obtain ⟨⟨hc, k3⟩, h⟩ := h
          have hN : X.N[i]? = some y := by rw [K.N]; exact k3
          cases a with
          | lc own tg it ifs x =>
            unfold mE at h
            split at h
            · rename_i el tt ii fs scope p
              simp only [Bool.and_eq_true, decide_eq_true_eq] at h
              obtain ⟨⟨⟨⟨⟨⟨h1, h2⟩, h3⟩, h4⟩, h5⟩, h6⟩, h7⟩ := h
              simp only [swapT, hidB, Bool.and_eq_true, Bool.not_eq_true'] at hsw
              obtain ⟨⟨⟨k1, k2⟩, k4⟩, k5⟩ := hsw
              have ok : BlkOk X.N X.env.scope scope (ownOf C.N own) := by rw [K.N, K.sc]; exact blkOk_by h1
              have hl := lcl_ok K k2
              have := ps_setLc (i := i) (py := py) (pos := p) (spos := sp) G.G.calm G.G.nd hN hl (sw_true (isFn_ok K k1) hl k4 k5) (pi_ok it G.G K h4) ok (fun s H D cl fp => pg_ok tg own (G.G.blk s H scope _ fp) (K.blk s H scope cl D fp) h5) (fun s H D cl fp => pf_ok ifs (G.G.blk s H scope _ fp) (K.blk s H scope cl D fp) h6) (fun s H D cl fp => pe_ok x (G.G.blk s H scope _ fp) (K.blk s H scope cl D fp) h7) (fold_ok h3)
              rw [h2] at this
              refine PSimp this fun D σ H q => ?_
              have q := imp (vs := [i]) D σ H q
              refine lc_den (show dE L E (evE cf (.lc own tg it ifs x)) σ H _ from ?_)
              obtain ⟨ρ, ah, σ', S, R, P⟩ := q
              refine ⟨ρ, ah, σ', S, R, P.imp fun z ah1 ρ1 H1 st S1 P1 zv rz => ?_⟩
              obtain ⟨ρ2, ah2, σ2, v2, S2, R2, rv2, P2⟩ := P1 zv rz
              exact Post.ret P2 S2 _ (SR.set rv2 i R2) (wipe_own (List.mem_singleton.mpr rfl))
            · cases h
          | lc2 own own1 tg it ifs tg1 it1 ifs1 x =>
            unfold mE at h
            split at h
            · rename_i el tt ii fs t1 i1 fs1 scope p
              simp only [Bool.and_eq_true, decide_eq_true_eq] at h
              obtain ⟨⟨⟨⟨⟨⟨⟨⟨⟨⟨⟨h1, h2⟩, ho⟩, h3⟩, h3'⟩, h4⟩, h5⟩, h6⟩, h7⟩, h8⟩, h9⟩, h10⟩ := h
              simp only [swapT, hidB, Bool.and_eq_true, Bool.not_eq_true'] at hsw
              obtain ⟨⟨⟨k1, k2⟩, k4⟩, k5⟩ := hsw
              have ok : BlkOk X.N X.env.scope scope (ownOf C.N own) := by rw [K.N, K.sc]; exact blkOk_by h1
              have hv : ∀ i ∈ own1, i ∈ (ownOf C.N own).map (·.2) := fun i hi => by
                rw [h2]
                exact of_decide_eq_true (List.all_eq_true.mp ho i hi)
              have hl := lcl_ok K k2
              have := ps_setLc2 (i := i) (py := py) (pos := p) (spos := sp) (vs1 := own1) G.G.calm G.G.nd hN hl (sw_true (isFn_ok K k1) hl k4 k5) (pi_ok it G.G K h4) ok hv (fun s H D cl fp => pg_ok tg own (G.G.blk s H scope _ fp) (K.blk s H scope cl D fp) h5) (fun s H D cl fp => pf_ok ifs (G.G.blk s H scope _ fp) (K.blk s H scope cl D fp) h6) (fun s H D cl fp => pi_ok it1 (G.G.blk s H scope _ fp) (K.blk s H scope cl D fp) h7) (fun s H D cl fp => pg_ok tg1 own1 (G.G.blk s H scope _ fp) (K.blk s H scope cl D fp) h8) (fun s H D cl fp => pf_ok ifs1 (G.G.blk s H scope _ fp) (K.blk s H scope cl D fp) h9) (fun s H D cl fp => pe_ok x (G.G.blk s H scope _ fp) (K.blk s H scope cl D fp) h10) (fold_ok h3) (fold_okE h3')
              rw [h2] at this
              refine PSimp this fun D σ H q => ?_
              have q := imp (vs := [i]) D σ H q
              refine lc2_den (show dE L E (evE cf (.lc2 own own1 tg it ifs tg1 it1 ifs1 x)) σ H _ from ?_)
              obtain ⟨ρ, ah, σ', S, R, P⟩ := q
              refine ⟨ρ, ah, σ', S, R, P.imp fun z ah1 ρ1 H1 st S1 P1 zv rz => ?_⟩
              obtain ⟨ρ2, ah2, σ2, v2, S2, R2, rv2, P2⟩ := P1 zv rz
              exact Post.ret P2 S2 _ (SR.set rv2 i R2) (wipe_own (List.mem_singleton.mpr rfl))
            · cases h
          | dc tb own tg it ifs k v =>
            unfold mE at h
            split at h
            · rename_i kx vx tt ii fs scope p
              simp only [Bool.and_eq_true, decide_eq_true_eq] at h
              obtain ⟨⟨⟨⟨⟨⟨⟨h1, h2⟩, h3⟩, h4⟩, h5⟩, h6⟩, h7⟩, h8⟩ := h
              simp only [swapT, hidB, Bool.and_eq_true, Bool.not_eq_true'] at hsw
              obtain ⟨⟨⟨k1, k2⟩, k4⟩, k5⟩ := hsw
              have ok : BlkOk X.N X.env.scope scope (ownOf C.N own) := by rw [K.N, K.sc]; exact blkOk_by h1
              have hl := lcl_ok K k2
              have := ps_setDcA (i := i) (py := py) (pos := p) (spos := sp) (dict0_is tb) G.G.u1 G.G.calm G.G.nd hN hl (sw_trueD (isFn_ok K k1) hl k4 k5) (pi_ok it G.G K h4) ok (fun s H D cl fp => pg_ok tg own (G.G.blk s H scope _ fp) (K.blk s H scope cl D fp) h5) (fun s H D cl fp => pf_ok ifs (G.G.blk s H scope _ fp) (K.blk s H scope cl D fp) h6) (fun s H D cl fp => pe_ok k (G.G.blk s H scope _ fp) (K.blk s H scope cl D fp) h7) (fun s H D cl fp => pe_ok v (G.G.blk s H scope _ fp) (K.blk s H scope cl D fp) h8) (fold_ok h3)
              rw [h2] at this
              refine PSimp this fun D σ H q => ?_
              have q := imp (vs := [i]) D σ H q
              refine dc_den (show dE L E (evE cf (.dc tb own tg it ifs k v)) σ H _ from ?_)
              obtain ⟨ρ, ah, σ', S, R, P⟩ := q
              refine ⟨ρ, ah, σ', S, R, P.imp fun z ah1 ρ1 H1 st S1 P1 zv rz => ?_⟩
              obtain ⟨ρ2, ah2, σ2, v2, S2, R2, rv2, P2⟩ := P1 zv rz
              exact Post.ret P2 S2 _ (SR.set rv2 i R2) (wipe_own (List.mem_singleton.mpr rfl))
            · cases h
          | _ => cases hc
        · cases h
      · simp only [Bool.and_eq_true] at h
        obtain ⟨⟨⟨⟨h1, h2⟩, h3⟩, h4⟩, h5⟩ := h
        exact PSimp (ps_asg (pe_ok a G.G K h4) (pg_ok t (tgAll t) G.G K h5) (sw0_ok K.sc h1) (swap_none h2) (by rw [asgs_cons h3]; rfl)) (imp (vs := tgAll t))
    · cases h
  | .par i j a b, C, xn, X, E, s, G, K, xk, h => by
    unfold mS at h
    split at h
    · rename_i x px y py _ _ e f _ _ _
      simp only [Bool.and_eq_true, decide_eq_true_eq, Bool.not_eq_true'] at h
      obtain ⟨⟨⟨⟨⟨⟨⟨⟨⟨⟨⟨⟨k1, k2⟩, k3⟩, k4⟩, k5⟩, k6⟩, k7⟩, k8⟩, k9⟩, l1⟩, l2⟩, h1⟩, h2⟩ := h
      have hi : X.N[i]? = some x := by rw [K.N]; exact k4
      have hj : X.N[j]? = some y := by rw [K.N]; exact k5
      have hxy : x ≠ y := fun e => by
        subst e
        obtain ⟨a1, b1⟩ := List.getElem?_eq_some_iff.mp hi
        obtain ⟨a2, b2⟩ := List.getElem?_eq_some_iff.mp hj
        exact k6 ((List.getElem_inj G.G.nd).mp (b1.trans b2.symm))
      refine PSimp (ps_par (i := i) (j := j) G.G.calm G.G.nd hi hj k6 (lcl_ok K k2) (lcl_ok K k3) (pa_cons (pe_ok a G.G K h1) (pa_cons (pe_ok b G.G K h2) pa_nil (star_ok k9)) (star_ok k8)) (swap_par (isFn_ok K k1) (lcl_ok K k2) (lcl_ok K k3) k7 hxy k8 k9 l1 l2) rfl) fun D σ H ⟨ρ, ah, σ', S, R, P⟩ => ⟨ρ, ah, σ', S, R, (Post.bind P).imp fun x ah1 ρ1 H1 st S1 P1 xv rx => ⟨ρ1, ah1, σ', S1, SR.step S st R, P1.bind.imp fun y ah2 ρ2 H2 st2 S2 P2 yv ry => ⟨xv, yv, rfl, ?_⟩⟩⟩
      exact Post.ret P2 S2 _ (SR.set ry j (SR.set (rx.step S1 st2) i (SR.step S1 st2 (SR.step S st R))))
    · cases h
  | .aug i op a, C, xn, X, E, s, G, K, xk, h => by
    unfold mS at h
    split at h
    · simp only [Bool.and_eq_true, decide_eq_true_eq] at h
      obtain ⟨⟨⟨h1, h2⟩, h3⟩, h4⟩ := h
      subst h1
      obtain ⟨l1, l2⟩ := loc_ok K h3
      refine PSimp (ps_aug (i := i) G.G.nd (by rw [K.N]; exact h2) l1 (pe_ok a G.G K h4) (iop_ok (L := L) (E := E) op) l2) fun D σ H ⟨ρ, ah, σ', S, R, P⟩ => ?_
      have P1 := Post.bind P
      unfold getS at P1
      cases q : σ'[i]? with
      | none => simp only [q] at P1; exact False.elim P1
      | some o =>
        cases o with
        | none => simp only [q] at P1; exact False.elim P1
        | some v' =>
          simp only [q] at P1
          obtain ⟨v, hv, rv⟩ := SR.get R q
          refine ⟨v, hv, ρ, ah, σ', S, R, (P1.ret S).bind.imp fun y ah2 ρ2 H2 st2 S2 P2 yv ry => ⟨ρ2, ah2, v', y, S2, rv.step S st2, ry, P2.bind.imp fun z ah3 ρ3 H3 st3 S3 P3 zv rz => ?_⟩⟩
          exact Post.ret P3 S3 _ (SR.set rz i (SR.step S2 st3 (SR.step S st2 R)))
    · cases h
  | .augS o i op a, C, xn, X, E, s, G, K, xk, h => by
    unfold mS at h
    split at h
    · simp only [Bool.and_eq_true, decide_eq_true_eq] at h
      obtain ⟨⟨⟨⟨h1, h2⟩, h3⟩, h4⟩, h5⟩ := h
      subst h1
      refine PSimp (ps_augS (pe_ok o G.G K h3) (pe_ok i G.G K h4) (get_item G.G) (pe_ok a G.G K h5) (iop_ok (L := L) (E := E) op) (set_ok G.G) (aug_st (o := .Name "" default) h2)) fun D σ H ⟨ρ, ah, σ', S, R, P⟩ => ⟨ρ, ah, σ', S, R, (Post.bind P).imp fun x ah1 ρ1 H1 st1 S1 P1 xv rx =>
        ⟨ρ1, ah1, σ', S1, SR.step S st1 R, P1.bind.imp fun y ah2 ρ2 H2 st2 S2 P2 yv ry => ⟨ρ2, ah2, x, y, S2, rx.step S1 st2, ry, P2.bind.imp fun z ah3 ρ3 H3 st3 S3 P3 zv rz =>
          ⟨ρ3, ah3, σ', S3, SR.step S2 st3 (SR.step S1 st2 (SR.step S st1 R)), P3.bind.imp fun w ah4 ρ4 H4 st4 S4 P4 wv rw' => ⟨ρ4, ah4, z, w, S4, rz.step S3 st4, rw', P4.bind.imp fun u ah5 ρ5 H5 st5 S5 P5 uv ru =>
            ⟨ρ5, ah5, x, y, u, S5, (((rx.step S1 st2).step S2 st3).step S3 st4).step S4 st5, ((ry.step S2 st3).step S3 st4).step S4 st5, ru, P5.bind.imp fun _ ah6 ρ6 H6 st6 S6 P6 => ?_⟩⟩⟩⟩⟩⟩
      exact Post.ret P6 S6 σ (SR.step S5 st6 (SR.step S4 st5 (SR.step S3 st4 (SR.step S2 st3 (SR.step S1 st2 (SR.step S st1 R))))))
    · cases h
  | .ret a, C, xn, X, E, s, G, K, xk, h => by
    unfold mS at h
    split at h
    · exact PSimp (ps_ret (pe_ok a G.G K h)) fun D σ H ⟨ρ, ah, σ', S, R, P⟩ => ⟨ρ, ah, σ', S, R, (Post.bind P).imp fun x ah1 ρ1 H1 st S1 P1 xv rx => Post.ret P1 S1 xv rx⟩
    · cases h
  | .ret0, C, xn, X, E, s, G, K, xk, h => by
    unfold mS at h
    split at h
    · exact PSimp ps_retN fun D σ H ⟨ρ, ah, σ', S, R, P⟩ => Post.ret P S _ .non
    · cases h
  | .if_ c a b, C, xn, X, E, s, G, K, xk, h => by
    unfold mS at h
    split at h
    · simp only [Bool.and_eq_true] at h
      obtain ⟨⟨h1, h2⟩, h3⟩ := h
      refine PSimp (ps_if (pt_ok c G.G K h1).1 (pss_ok a G K xk h2) (pss_ok b G K xk h3)) fun D σ H ⟨ρ, ah, σ', S, R, P⟩ => ⟨ρ, ah, σ', S, R, (Post.bind P).imp fun k ah1 ρ1 H1 st S1 P1 => ?_⟩
      cases k with
      | true => exact ⟨ρ1, ah1, σ', S1, SR.step S st R, P1⟩
      | false => exact ⟨ρ1, ah1, σ', S1, SR.step S st R, P1⟩
    · cases h
  | .for_ t it b, C, xn, X, E, s, G, K, xk, h => by
    unfold mS at h
    split at h
    · simp only [Bool.and_eq_true] at h
      obtain ⟨⟨⟨h1, h2⟩, h3⟩, h4⟩ := h
      exact PSimp (ps_for G.po G.G.calm (pi_ok it G.G K h2) (pg_ok t (tgAll t) G.G K h3) (pss_ok b G K xk h4) (fold_ok h1)) fun D σ H q => flp_den q
    · cases h
  | .while_ c b, C, xn, X, E, s, G, K, xk, h => by
    unfold mS at h
    split at h
    · simp only [Bool.and_eq_true] at h
      exact PSimp (ps_while G.po (pt_ok c G.G K h.1).1 (pss_ok b G K xk h.2)) fun D σ H q => wlp_den (k := many) q
    · cases h
  | .raise c es, C, xn, X, E, s, G, K, xk, h => by
    unfold mS at h
    split at h
    · split at h
      · rename_i x _ _ _ _ _ _
        simp only [Bool.and_eq_true, decide_eq_true_eq] at h
        obtain ⟨h1, h2⟩ := h
        refine PSimp (ps_raise G.G.calm G.tk (xk (c, x) h2 X G.G.K G.G.mg (gl_ok K.sc h1) _ _ _ _ _)) fun D σ H ⟨ρ, ah, σ', S, R, P⟩ => ?_
        have P : Post L E ρ H (Rs.ex c [] ah) (SQ L D) := P
        exact P ρ H (.ref (L.ca c)) none Step.refl S ⟨rfl, rfl⟩
      · cases h
    · rename_i a
      split at h
      · rename_i x px e p pos
        simp only [Bool.and_eq_true, decide_eq_true_eq] at h
        obtain ⟨⟨⟨⟨h1, h2⟩, h3⟩, h4⟩, h5⟩ := h
        obtain ⟨m1, m2, fI, fd, T0⟩ := K.xp _ h4
        have T1 : RefC X.prog X.K X.mg (L.ca c) fI fd := by rw [G.G.P, G.G.K, G.G.mg]; exact T0
        refine PSimp (ps_raise G.G.calm G.tk (pmk_aex (CX := C8.CX0) T1 (G.G.room.mono (by omega)) C8.pass0 (gl_ok K.sc h1) (by rw [G.G.mg]; exact m1) (pe_ok a G.G K h5) (nm_ok h2).1 (star_ok h3))) fun D σ H ⟨ρ, ah, σ', S, R, P⟩ => ⟨ρ, ah, σ', S, R, (Post.bind (Post.bind P)).imp fun v ah1 ρ1 H1 st S1 P1 w rw' d hd => ?_⟩
        have P2 : Post L E ρ1 H1 (Rs.ex c [v] ah1) (SQ L D) := P1.ret S1
        refine P2 ρ1 (upd H1 d (.xd [("reason", w)])) (.ref (L.ca c)) (some d) (step_new hd) (S1.new hd) ⟨rfl, d, w, rfl, ?_, rw'.step S1 (step_new hd)⟩
        rw [upd_same, m2]
      · cases h
    · cases h
  | .pass, C, xn, X, E, s, G, K, xk, h => by
    unfold mS at h
    split at h
    · exact PSimp ps_pass fun D σ H ⟨ρ, ah, σ', S, R, P⟩ => Post.ret P S σ R
    · cases h
  | .brk, C, xn, X, E, s, G, K, xk, h => by
    unfold mS at h
    split at h
    · exact PSimp ps_break fun D σ H ⟨ρ, ah, σ', S, R, P⟩ => Post.ret P S σ R
    · cases h
  | .cont, C, xn, X, E, s, G, K, xk, h => by
    unfold mS at h
    split at h
    · exact PSimp ps_continue fun D σ H ⟨ρ, ah, σ', S, R, P⟩ => Post.ret P S σ R
    · cases h
theorem pss_ok : ∀ (ir : Sxs) {C : Ct} {xn : List (Nat × Str)} {X : Cx} {E : XK} {ss : List Stmt}, Gs L T n cf E X → Ck C L T n X → Xk L xn → mSs C xn ir ss = true → PSs X ss (dS L E (evSs cf ir))
  | .nil, C, xn, X, E, ss, G, K, xk, h => by
    unfold mSs at h; rw [List.isEmpty_iff] at h
    subst h
    exact PSsimp pss_nil fun D σ H ⟨ρ, ah, σ', S, R, P⟩ => Post.ret P S σ R
  | .cons x xs, C, xn, X, E, ss, G, K, xk, h => by
    unfold mSs at h
    split at h
    · rw [Bool.and_eq_true] at h
      refine PSsimp (pss_cons (ps_ok x G K xk h.1) (pss_ok xs G K xk h.2)) fun D σ H ⟨ρ, ah, σ', S, R, P⟩ => ⟨ρ, ah, σ', S, R, (Post.bind P).imp fun q ah1 ρ1 H1 st S1 P1 => ?_⟩
      obtain ⟨f, σ5⟩ := q
      cases f with
      | nx => exact fun σ R => ⟨ρ1, ah1, σ5, S1, R, P1⟩
      | ct => exact fun σ R => Post.ret P1 S1 σ R
      | bk => exact fun σ R => Post.ret P1 S1 σ R
      | rt r => exact fun v rv => Post.ret P1 S1 v rv
    · cases h
end
end
end Ip

set_option Elab.async false
set_option linter.all false
set_option maxRecDepth 100000
set_option maxHeartbeats 400000
namespace Ip
open PySem PySem.Spec PyProof.Rows L2

/-! ### every function of the table keeps what its evaluation tells -/
/-- what a text's facts are, wherever one stands -/
structure Cw (C : Ct) (L : Lw) (T : List Fn) : Prop where
  T : C.T = T
  gc : ∀ p ∈ C.gc, ∃ u w, L.mg p.1 = some u ∧ L2.RelV w u ∧ ∀ ρ H, Rep L ρ H p.2 w
  fb : ∀ x ∈ C.fb, L.mg x = none
  sn : ∀ q ∈ C.sn, ∀ (i : Nat) (f : Str), q.2[i]? = some f → SlX.SCls L.K (L.ca q.1) ∧ ∃ p, SlX.Slot1 L.K (L.ca q.1) f p i
  mt : ∀ q ∈ C.mt, SlX.SCls L.K (L.ca q.1) ∧ Meth L.K (L.ca q.1) q.2.1 (L.fa q.2.2)
  xp : ∀ q ∈ C.xp, L.mg q.2 = some (.ref (L.ca q.1)) ∧ L.xf q.1 = "reason" ∧ ∃ fI fd, RefC L.P L.K L.mg (L.ca q.1) fI fd
  cl : ∀ q ∈ C.cl, L.mg q.2.1 = some (.ref (L.ca q.1)) ∧ Mk L.K (L.ca q.1) (L.fa q.2.2)
/-- a function as it stands -/
structure Fd (L : Lw) (T : List Fn) (xn : List (Nat × Str)) (f : Nat) (F : Fn) : Prop where
  ar : F.ar ≤ F.N.length
  ex : ∃ (x qual : Str) (params : Arguments) (body : List Stmt) (scope : Scope) (C : Ct), FunD L.K x qual params body scope [] [] (L.fa f) (L.fd f) ∧ FnScope F.N (F.N.take F.ar) scope ∧ C.N = F.N ∧ C.sc = scope ∧ C.fn = (fun _ => true) ∧ C.gd = F.gd ∧ Cw C L T ∧ mSs C xn F.body body = true ∧
    (F.gd = true → Wf L C.wn C.ws C.wf ∧ ∃ (c P : Addr), (L.fd f).code = .ref c ∧ LamX.TabB L.base L.mg c P ∧ (P, (qual ++ ".<locals>.") ++ "<lambda>") ∈ L.tb ∧ ∀ p ∈ L.tb, p.1 = P → p.2 = (qual ++ ".<locals>.") ++ "<lambda>")
section
variable {L : Lw} {T : List Fn} {xn : List (Nat × Str)}
theorem sp_len {n f : Nat} {F : Fn} (hF : T[f]? = some F) (ha : F.ar ≤ F.N.length) {vs : List V} {H : Hp} {Q : VK} {E : XK} (h : spOf L (callN T (n + 1)) f vs H Q E) : vs.length = (F.N.take F.ar).length := by
  obtain ⟨ρ, ah, xs, S, r, P⟩ := h
  unfold callN at P
  rw [hF] at P
  obtain ⟨h1, _⟩ := Post.guard P
  rw [← r.length, eq_of_beq h1, List.length_take, Nat.min_eq_left ha]
theorem sp_body {n f : Nat} {F : Fn} (hF : T[f]? = some F) {vs : List V} {H : Hp} {Q : VK} {E : XK} (h : spOf L (callN T (n + 1)) f vs H Q E) : dS L E (evSs (callN T n) F.body) { nx := fun _ H' => Q .non H', rt := Q } (L2.start F.N vs) H := by
  obtain ⟨ρ, ah, xs, S, r, P⟩ := h
  unfold callN at P
  rw [hF] at P
  obtain ⟨h1, P⟩ := Post.guard P
  refine ⟨ρ, ah, entry F.N.length xs, S, ?_, P.bind.imp fun p ah1 ρ1 H1 st S1 P1 => ?_⟩
  · unfold entry L2.start
    rw [r.length]
    exact (SR.somes r).append (SR.nones _)
  · obtain ⟨fl, σ⟩ := p
    cases fl with
    | nx => exact fun _ _ => P1.ret S1 _ .non
    | rt v => exact fun w rw' => P1.ret S1 _ rw'
    | bk => exact False.elim P1
    | ct => exact False.elim P1
theorem fns_ok (I : FnI L T) (D : ∀ (f : Nat) (F : Fn), T[f]? = some F → Fd L T xn f F) (xk : Xk L xn) : ∀ n : Nat,
    (∀ (f : Nat) (F : Fn), T[f]? = some F → F.gd = false → FnOk L.P L.w L.K L.mg L.base (L2.CX L.P L.w) (4 * n) (L.fa f) (L.fd f) (F.N.take F.ar) (spOf L (callN T n) f)) ∧
    (∀ (f : Nat) (F : Fn), T[f]? = some F → F.gd = true → FnG L.P L.w L.K L.mg L.base (L2.CX L.P L.w) (4 * n) (L.fa f) (L.fd f) (F.N.take F.ar) (spOf L (callN T n) f))
  | 0 => by
    have no : ∀ {f : Nat} {vs : List V} {H : Hp} {Q : VK} {E : XK}, spOf L (callN T 0) f vs H Q E → False := fun ⟨_, _, _, _, _, P⟩ => P
    exact ⟨fun f F hF _ => ⟨fun vs H Q E h => (no h).elim, fun A outer s H args us vs Q E _ _ _ _ h => (no h).elim⟩, fun f F hF _ => ⟨fun vs H Q E h => (no h).elim, fun A outer s H args us vs Q E _ _ _ _ _ h => (no h).elim⟩⟩
  | n + 1 => by
    obtain ⟨ih1, ih2⟩ := fns_ok I D xk n
    have body : ∀ (f : Nat) (F : Fn) (hF : T[f]? = some F) (C : Ct) (qual : Str) (scope : Scope) (body : List Stmt) (cdv : Value) (A : Around) (outer : List Env) (s : Shared) (H : Hp) (E : XK), FnScope F.N (F.N.take F.ar) scope → C.N = F.N → C.sc = scope → C.fn = (fun _ => true) → Cw C L T →
        Room (4 * n + 3) (A.deeper (envOfC qual scope s.heap.objs.size (L.fa f) cdv)) → (C.gd = true → Gdx C L n (cxOf (L2.CX L.P L.w) L.P L.w L.K L.mg L.base F.N qual scope (L.fa f) cdv A outer s H E)) → mSs C xn F.body body = true →
        PSs (cxOf (L2.CX L.P L.w) L.P L.w L.K L.mg L.base F.N qual scope (L.fa f) cdv A outer s H E) body (dS L E (evSs (callN T n) F.body)) := by
      intro f F hF C qual scope body cdv A outer s H E S e1 e2 e3 W hr hg hm
      have tk : Takes (cxOf (L2.CX L.P L.w) L.P L.w L.K L.mg L.base F.N qual scope (L.fa f) cdv A outer s H E) (fun cls d _ H => E cls d H) := takes_of rfl rfl rfl rfl
      refine pss_ok F.body (C := C) ⟨⟨rfl, rfl, rfl, rfl, rfl, S.nd, rfl, hr.mono (by omega), I, ih1, ih2, ?_⟩, passes_of rfl, tk⟩ ⟨e1.symm, e2.symm, e3.symm, W.T, W.gc, W.fb, W.sn, W.mt, W.xp, hg, W.cl⟩ xk hm
      exact passes_call tk (E := E) fun _ _ _ _ h => h
    have e4n : 4 * (n + 1) = 4 * n + 3 + 1 := by omega
    rw [e4n]
    refine ⟨fun f F hF hgd => ?_, fun f F hF hgd => ?_⟩
    · obtain ⟨har, x, qual, params, bd, scope, C, FD, S, e1, e2, e3, e4, W, hm, _⟩ := D f F hF
      have ng : C.gd = true → False := fun z => by
        rw [e4, hgd] at z
        cases z
      have key : ∀ (cdv : Value) (A : Around) (outer : List Env) (s : Shared) (H : Hp) (vs : List V) (Q : VK) (E : XK), Room (4 * n + 3) (A.deeper (envOfC qual scope s.heap.objs.size (L.fa f) cdv)) → spOf L (callN T (n + 1)) f vs H Q E →
          ∃ t, PSs (cxOf (L2.CX L.P L.w) L.P L.w L.K L.mg L.base F.N qual scope (L.fa f) cdv A outer s H E) bd t ∧ t { nx := fun _ H' => Q .non H', rt := Q } (L2.start F.N vs) H :=
        fun cdv A outer s H vs Q E hr h => by
          have h1 := body f F hF C qual scope bd cdv A outer s H E S e1 e2 e3 W hr (fun z => (ng z).elim) hm
          have h2 := sp_body hF h
          exact ⟨_, h1, h2⟩
      exact FunD.ok (CX := L2.CX L.P L.w) (k := 4 * n + 3) (sp := spOf L (callN T (n + 1)) f) FD S (fun vs H Q E h => sp_len hF har h) key
    · obtain ⟨har, x, qual, params, bd, scope, C, FD, S, e1, e2, e3, e4, W, hm, hG⟩ := D f F hF
      obtain ⟨wf, c, P, hc, TB, hT, hu⟩ := hG hgd
      refine ⟨fun vs H Q E h => sp_len hF har h, fun A outer s H args us vs Q E ga hr e0 hb hv h => ?_⟩
      obtain ⟨oc, od, dV, kV, doc, pm, an, cdv, ct, osl, efd, lk, hcd, _, _⟩ := FD.ex
      rw [efd] at lk hb hc
      have hc : cdv = .ref c := hc
      subst hc
      have key : Room (4 * n + 3) (A.deeper (envOfC qual scope s.heap.objs.size (L.fa f) (.ref c))) → ∃ t, PSs (cxOf (L2.CX L.P L.w) L.P L.w L.K L.mg L.base F.N qual scope (L.fa f) (.ref c) A outer s H E) bd t ∧ t { nx := fun _ H' => Q .non H', rt := Q } (L2.start F.N vs) H := fun hr' => by
        have g1 : Gdx C L n (cxOf (L2.CX L.P L.w) L.P L.w L.K L.mg L.base F.N qual scope (L.fa f) (.ref c) A outer s H E) := by
          refine ⟨ga, hr', ⟨c, P, TB, rfl, ?_, ?_⟩, wf⟩
          · exact hT
          · exact hu
        have h1 := body f F hF C qual scope bd (.ref c) A outer s H E S e1 e2 e3 W hr' (fun _ => g1) hm
        have h2 := sp_body hF h
        exact ⟨_, h1, h2⟩
      have hl := sp_len hF har h
      exact LamX.run_ofS (CX := L2.CX L.P L.w) (k := 4 * n + 3) lk hcd S hr e0 hb hv hl key
end
end Ip

set_option Elab.async false
set_option linter.all false
set_option maxRecDepth 100000
set_option maxHeartbeats 4000000
namespace Ip
open PySem PySem.Spec PyProof.Rows L2 He

/-! ### facts of the written part, by Bools -/
def constB (K : PySem.W.Frag) (p : Str × Vl) : Bool := match p.2, PySem.W.nsIn K mainGlobals p.1 with
  | .int i, some (some (.int j _)) => decide (j = i)
  | .str z, some (some (.str y _)) => decide (y = z)
  | _, _ => false
def freeIn (K : PySem.W.Frag) (x : Str) : Bool := eqO (PySem.W.nsIn K mainGlobals x) (some none)
def gloB (K : PySem.W.Frag) (x : Str) : Bool := eqO (PySem.W.nsIn K mainGlobals x) (some (some (.ref (ga K x))))
def sclsB (K : PySem.W.Frag) (C : Addr) : Bool := PySem.W.plainGet K C Str.empty && (PySem.W.isClsIn K C && (PySem.W.plainOver K C && eqO (PySem.W.findIn K (.ref C) "__setattr__") (some (some (.builtin "object.__setattr__")))))
def slot1B (K : PySem.W.Frag) (C : Addr) (f : Str) (i : Nat) : Bool := match PySem.W.findIn K (.ref C) f with
  | some (some (.ref p)) => eqO (PySem.W.specialIn K (.ref p) "__get__") (some (some (.builtin "member_descriptor.__get__"))) && (decide (PySem.W.takesIn K (.ref p) = some true) && (decide (PySem.W.typeIn K (.ref p) = some (.type "member_descriptor")) && (decide (PySem.W.slotIn K p C = some i) && decide (i < 1000))))
  | _ => false
def methB (K : PySem.W.Frag) (C : Addr) (m : Str) (f : Addr) : Bool := eqO (PySem.W.findIn K (.ref C) m) (some (some (.ref f))) && (PySem.W.isFn K (.ref f) && PySem.W.keepIn K (.ref f))
def mkB (K : PySem.W.Frag) (C f : Addr) : Bool := PySem.W.makesIn K C && (eqO (PySem.W.findIn K (.ref C) "__init__") (some (some (.ref f))) && (PySem.W.isFn K (.ref f) && PySem.W.keepIn K (.ref C)))
def excB (K : PySem.W.Frag) (C : Addr) : Bool := PySem.W.excIn K C veBase "ValueError.__new__" && (PySem.W.keepIn K (.ref C) && (decide (PySem.W.subIn K (.ref C) (.type "BaseException") = some true) && decide (PySem.W.typeIn K (.ref C) = some (.type "type"))))
section
variable {K : PySem.W.Frag} {h : Heap} {mg : Str → Option Value}
theorem constB_ok (X : K.In h) (G : h.Ns mainGlobals mg) {p : Str × Vl} (c : constB K p = true) : ∃ u w, mg p.1 = some u ∧ L2.RelV w u ∧ ∀ (L : Lw) (ρ : List Addr) (H : Hp), Rep L ρ H p.2 w := by
  unfold constB at c
  split at c
  · rename_i i j t e1 e2
    exact ⟨_, .int i, PySem.W.mg_of X G e2, ⟨t, by rw [of_decide_eq_true c]⟩, fun L ρ H => by rw [e1]; exact .int i⟩
  · rename_i z y t e1 e2
    exact ⟨_, .str z, PySem.W.mg_of X G e2, ⟨t, by rw [of_decide_eq_true c]⟩, fun L ρ H => by rw [e1]; exact .str z⟩
  · cases c
theorem freeIn_ok (X : K.In h) (G : h.Ns mainGlobals mg) {x : Str} (c : freeIn K x = true) : mg x = none := PySem.W.mg_none_of X G (eqO_ok c)
theorem gloB_ok (X : K.In h) (G : h.Ns mainGlobals mg) {x : Str} (c : gloB K x = true) : mg x = some (.ref (ga K x)) := PySem.W.mg_of X G (eqO_ok c)
theorem sclsB_ok {C : Addr} (c : sclsB K C = true) : SlX.SCls K C := by
  obtain ⟨h1, h⟩ := ba c
  obtain ⟨h2, h⟩ := ba h
  obtain ⟨h3, h4⟩ := ba h
  exact ⟨h1, h2, h3, eqO_ok h4⟩
theorem slot1B_ok {C : Addr} {f : Str} {i : Nat} (c : slot1B K C f i = true) : ∃ p, SlX.Slot1 K C f p i := by
  unfold slot1B at c
  split at c
  · rename_i p e
    obtain ⟨h1, h⟩ := ba c
    obtain ⟨h2, h⟩ := ba h
    obtain ⟨h3, h⟩ := ba h
    obtain ⟨h4, h5⟩ := ba h
    exact ⟨p, e, eqO_ok h1, of_decide_eq_true h2, of_decide_eq_true h3, of_decide_eq_true h4, of_decide_eq_true h5⟩
  · cases c
theorem methB_ok {C : Addr} {m : Str} {f : Addr} (c : methB K C m f = true) : Meth K C m f := by
  obtain ⟨h1, h⟩ := ba c
  obtain ⟨h2, h3⟩ := ba h
  exact ⟨eqO_ok h1, h2, h3⟩
theorem mkB_ok {C f : Addr} (c : mkB K C f = true) : Mk K C f := by
  obtain ⟨h1, h⟩ := ba c
  obtain ⟨h2, h⟩ := ba h
  obtain ⟨h3, h4⟩ := ba h
  exact ⟨h1, eqO_ok h2, h3, h4⟩
theorem excB_ok {C : Addr} (c : excB K C = true) {X : Cx} (hK : X.K = K) {x : Str} (hm : X.mg x = some (.ref C)) (hg : Gl X x) (hd : ndb x = true) (p : Pos) (m : Str) (j : Nat) (p2 pos : Pos) : PMk X (.Call (.Name x p) [.Constant (.str m) j p2] [] pos) (fun _ H Q => Q (.ref C) none H) := by
  obtain ⟨h1, h⟩ := ba c
  obtain ⟨h2, h⟩ := ba h
  obtain ⟨h3, h4⟩ := ba h
  subst hK
  exact pmk_own PySem.F.excBase_ValueError h1 hm h2 (raises_own (of_decide_eq_true h3) (of_decide_eq_true h4)) hg (by simpa [ndb] using hd)
/-! the class with its own __init__ -/
def riB : List Stmt → Bool
  | [.Expr (.Call (.Attribute (.Call (.Name s _) [] [] _) i q2) [.Constant (.str _) 0 _] [] q4) _, .Assign [.Attribute (.Name f _) r _] (.Name r' _) _] =>
    decide (s = "super") && decide (i = "__init__") && decide (f = "self") && decide (r = "reason") && decide (r' = "reason") && (q2.endLine == q4.line)
  | _ => false
theorem riB_ok {b : List Stmt} (h : riB b = true) : ∃ (q : Nat → Pos) (msg : Str), b = riBody q msg ∧ ((q 2).endLine == (q 4).line) = true := by
  unfold riB at h
  split at h
  · rename_i s q0 q1 i q2 msg q3 q4 q5 f q6 r q7 r' q8 q9
    simp only [Bool.and_eq_true, decide_eq_true_eq] at h
    obtain ⟨⟨⟨⟨⟨h1, h2⟩, h3⟩, h4⟩, h5⟩, h6⟩ := h
    subst h1 h2 h3 h4 h5
    exact ⟨fun n => match n with
      | 0 => q0 | 1 => q1 | 2 => q2 | 3 => q3 | 4 => q4 | 5 => q5 | 6 => q6 | 7 => q7 | 8 => q8 | _ => q9, msg, rfl, h6⟩
  · cases h
def riP : Arguments → Bool
  | ⟨[], [⟨a, none, _⟩, ⟨b, none, _⟩], none, [], [], none, []⟩ => decide (a = "self") && decide (b = "reason")
  | _ => false
theorem riP_ok {a : Arguments} (h : riP a = true) : ∃ pa pb, a = riParams pa pb := by
  unfold riP at h
  split at h
  · rename_i a pa b pb
    rw [Bool.and_eq_true, decide_eq_true_eq, decide_eq_true_eq] at h
    obtain ⟨h1, h2⟩ := h
    subst h1 h2
    exact ⟨pa, pb, rfl⟩
  · cases h
def riC (K : PySem.W.Frag) (C : Addr) : Bool := match K.lookup C with
  | some ⟨.type t, _, .cls cd, sl⟩ => (match cd.mro, sl.toList with
    | .ref C' :: bm, [_, _, _, _, some (.builtin n), _] => decide (t = "type") && decide (C' = C) && decide (n = "ArithmeticError.__new__") && !cd.hasDel && decide (bm = aeTail) && cd.hasDict
    | _, _ => false)
  | _ => false
theorem riC_ok {C : Addr} (h : riC K C = true) : ∃ nm q N bs sn sub ab col dd k0 k1 k2 k3 k5, K.lookup C = some (excClassObj nm q C N bs aeTail true sn sub ab col dd k0 k1 k2 k3 k5 "ArithmeticError.__new__") := by
  unfold riC at h
  split at h
  · rename_i t dd cd sl hl
    split at h
    · rename_i C' bm k0 k1 k2 k3 n k5 hm hs
      simp only [Bool.and_eq_true, decide_eq_true_eq, Bool.not_eq_true'] at h
      obtain ⟨⟨⟨⟨⟨h1, h2⟩, h3⟩, h4⟩, h5⟩, h6⟩ := h
      obtain ⟨nm, bs, mro, ns, qn, hd, sn, sub, ab, col, del⟩ := cd
      dsimp only at hm h4 h6
      subst hm h1 h2 h3 h4 h5 h6
      have hsl : sl = #[k0, k1, k2, k3, some (.builtin "ArithmeticError.__new__"), k5] := by
        obtain ⟨l⟩ := sl
        simp only at hs
        rw [hs]
      subst hsl
      exact ⟨nm, qn, ns, bs, sn, sub, ab, col, dd, k0, k1, k2, k3, k5, hl⟩
    · cases h
  · cases h
def cellB (K : PySem.W.Frag) (C : Addr) : List (Str × Addr) → Bool
  | [(n, cc)] => decide (n = "__class__") && (match K.lookup cc with
    | some ⟨_, _, .cell (some (.ref c)), _⟩ => decide (c = C)
    | _ => false)
  | _ => false
def fileB (K : PySem.W.Frag) (file : Str) : Value → Bool
  | .ref cda => (match K.lookup cda with
    | some ⟨_, _, .fields vs, _⟩ => (match (vs[2]? : Option Value) with
      | some (.str f _) => decide (file = f)
      | _ => false)
    | _ => false)
  | _ => false
def isNoneV : Value → Bool
  | .none => true
  | _ => false
def riF (K : PySem.W.Frag) (file : Str) (C fI : Addr) : Bool := match K.lookup fI with
  | some ⟨_, _, .func fd, _⟩ => decide (fd.name = "__init__") && decide (fd.qualname = "Refused.__init__") && riP fd.params && (match fd.body with
      | .stmts b => riB b
      | _ => false) && decide (fd.scope = riScope) && decide (fd.globals = mainGlobals) && cellB K C fd.closure && isNoneV fd.defaults && decide (fd.builtins = builtinsNs) && PySem.W.codeIn K fd.code "Refused.__init__" && fileB K file fd.code
  | _ => false
def refB (K : PySem.W.Frag) (file : Str) (C : Addr) : Bool := riC K C && (eqO (PySem.W.findIn K (.ref C) "__setattr__") (some (some (.builtin "object.__setattr__"))) && (decide (PySem.W.subIn K (.ref C) (.type "BaseException") = some true) && (decide (PySem.W.subIn K (.ref C) (.type "ArithmeticError") = some true) &&
  (decide (PySem.W.typeIn K (.ref C) = some (.type "type")) && (PySem.W.keepIn K (.ref C) && (eqO (PySem.W.findIn K (.ref C) "__init__") (some (some (.ref (ma K C "__init__")))) && (decide (PySem.W.typeIn K (.ref (ma K C "__init__")) = some (.type "function")) && (eqO (PySem.W.findIn K (.ref C) "reason") (some none) &&
  (decide (PySem.W.mroIn K C (.ref C) = some true) && (eqO (PySem.W.ks_superIn K C C "__init__") (some (some (.builtin "ArithmeticError.__init__"))) && (eqO (PySem.W.nsIn K mainGlobals "super") (some none) && (eqO (PySem.W.nsIn K cStatics "thirdparty.any") (some none) && riF K file C (ma K C "__init__")))))))))))))
theorem refB_ok {P : Program} (X : K.In h) (G : h.Ns mainGlobals mg) (ht : (P.main.scope.names.lookup ("super" : Str)).isSome = false) {C : Addr} (c : refB K P.main.file C = true) : ∃ fI fd, RefC P K mg C fI fd := by
  obtain ⟨h1, c⟩ := ba c
  obtain ⟨h2, c⟩ := ba c
  obtain ⟨h3, c⟩ := ba c
  obtain ⟨h4, c⟩ := ba c
  obtain ⟨h5, c⟩ := ba c
  obtain ⟨h6, c⟩ := ba c
  obtain ⟨h7, c⟩ := ba c
  obtain ⟨h8, c⟩ := ba c
  obtain ⟨h9, c⟩ := ba c
  obtain ⟨h10, c⟩ := ba c
  obtain ⟨h11, c⟩ := ba c
  obtain ⟨h12, c⟩ := ba c
  obtain ⟨h13, c⟩ := ba c
  unfold riF at c
  split at c
  · rename_i oc od fd osl lk
    simp only [Bool.and_eq_true, decide_eq_true_eq] at c
    obtain ⟨⟨⟨⟨⟨⟨⟨⟨⟨⟨c1, c2⟩, c3⟩, c4⟩, c5⟩, c6⟩, c7⟩, c8⟩, c9⟩, c10⟩, c11⟩ := c
    obtain ⟨n1, n2, n3, n4, n5, n6, n7, n8, n9, n10, n11, n12, n13, n14, n15⟩ := fd
    dsimp only at c1 c2 c3 c4 c5 c6 c7 c8 c9 c10 c11
    subst c1 c2 c5 c6 c9
    obtain ⟨pa, pb, rfl⟩ := riP_ok c3
    cases n4 with
    | stmts b =>
      obtain ⟨q, msg, rfl, hl⟩ := riB_ok c4
      cases n8 with
      | none =>
        unfold fileB at c11
        split at c11
        · rename_i cda
          split at c11
          · rename_i ccl cdd vs ccs hcd
            split at c11
            · rename_i f tf hf
              unfold cellB at c7
              split at c7
              · rename_i n cc
                rw [Bool.and_eq_true, decide_eq_true_eq] at c7
                obtain ⟨rfl, c7⟩ := c7
                split at c7
                · rename_i cl cld c' csl hcc
                  have := of_decide_eq_true c7
                  subst this
                  refine ⟨_, _, riC_ok h1, eqO_ok h2, of_decide_eq_true h3, of_decide_eq_true h4, of_decide_eq_true h5, h6, eqO_ok h7, of_decide_eq_true h8, eqO_ok h9, of_decide_eq_true h10, eqO_ok h11, PySem.W.mg_none_of X G (eqO_ok h12), ht, eqO_ok h13,
                    oc, od, osl, pa, pb, q, msg, n9, n10, n11, n14, n12, cc, cda, vs, f, tf, ccl, cl, cdd, cld, ccs, csl, rfl, lk, c10, hl, hcd, hf, ?_, hcc⟩
                  exact beq_iff_eq.mpr (of_decide_eq_true c11)
                · cases c7
              · cases c7
            · cases c11
          · cases c11
        · cases c11
      | _ => cases c8
    | _ => cases c4
  · cases c
end
end Ip

set_option maxRecDepth 100000
set_option maxHeartbeats 400000
open PySem PySem.Spec PyProof.Rows L2
namespace Ip
theorem zip_some : ∀ {as : List Str} {us : List Value}, us.length = as.length → ∀ x ∈ as, ((as.zip us).lookup x).isSome = true
  | [], us, _, x, hx => by cases hx
  | a :: as, [], h, x, hx => by simp at h
  | a :: as, u :: us, h, x, hx => by
    rw [List.zip_cons_cons, List.lookup_cons]
    split
    · rfl
    · rename_i q
      rcases List.mem_cons.mp hx with e | e
      · subst e
        simp at q
      · exact zip_some (by simpa using h) x e
theorem fm_congr {α β : Type} {f g : α → Option β} : ∀ {l : List α}, (∀ x ∈ l, f x = g x) → l.filterMap f = l.filterMap g
  | [], _ => rfl
  | x :: l, h => by
    rw [List.filterMap_cons, List.filterMap_cons, h x (.head _), fm_congr fun y hy => h y (.tail _ hy)]
theorem zip_back : ∀ {as : List Str} {us : List Value}, as.Nodup → us.length = as.length → (as.filterMap fun n => ((as.zip us).lookup n).map fun v => (n, v)) = as.zip us
  | [], us, _, _ => rfl
  | a :: as, [], _, h => by simp at h
  | a :: as, u :: us, nd, h => by
    rw [List.nodup_cons] at nd
    have ih := zip_back nd.2 (us := us) (by simpa using h)
    have e1 : ((a :: as).zip (u :: us)).lookup a = some u := by
      rw [List.zip_cons_cons, List.lookup_cons_self]
    rw [List.filterMap_cons, e1]
    show (a, u) :: _ = _
    rw [List.zip_cons_cons]
    congr 1
    refine Eq.trans (fm_congr fun n hn => ?_) ih
    have hne : (n == a) = false := beq_eq_false_iff_ne.mpr fun e => nd.1 (by rw [← e]; exact hn)
    rw [List.lookup_cons, hne]
theorem bind_plain {x q : Str} {as : List PySem.Arg} {body : List Stmt} {sc : Scope} {kV doc pm cdv ct : Value} {an : Option Addr} {us : List Value} (nd : (as.map (·.arg)).Nodup) (hl : us.length = (as.map (·.arg)).length) :
    bindArgs (PySem.W.fnOf x q ⟨[], as, none, [], [], none, []⟩ body sc .none kV doc pm an cdv ct) ⟨us, []⟩ = pure ((as.map (·.arg)).zip us) := by
  have hz := zip_some hl
  have hm : ((as.map (·.arg)).filter fun n => (((as.map (·.arg)).zip us).lookup n).isNone) = [] := by
    rw [List.filter_eq_nil_iff]
    intro n hn
    have := hz n hn
    simp only [Option.isNone_iff_eq_none]
    intro e
    rw [e] at this
    cases this
  have hb := zip_back nd hl
  rw [List.filterMap_map] at hb
  have ht : List.take as.length (as.map (·.arg)) = as.map (·.arg) := by rw [List.take_of_length_le]; simp
  have hs : seqItems? Value.none = pure none := rfl
  have hl' : us.length = as.length := by simpa using hl
  unfold bindArgs
  simp only [List.map_nil, List.nil_append, hs]
  simp [hl', ht, hm]
  exact congrArg pure hb
end Ip

set_option Elab.async false
set_option linter.all false
set_option maxRecDepth 100000
set_option maxHeartbeats 4000000
namespace Ip
open PySem PySem.Spec PyProof.Rows L2 He

/-! ### the law's call, where no text is being shown -/
def hp0 (a : Addr) (o : Obj) (xs : List V) (ts : List Addr) : Hp := fun b => if b = a then some (.frz o (.lst xs)) else if b ∈ ts then some (.tbl #[]) else none
abbrev scr (vs : List Value) : Obj := { cls := .type "list", data := .seq vs.toArray }
abbrev tab0 : Obj := { cls := .none, data := .fields #[] }
section
variable {P : Program} {w : World} {K : PySem.W.Frag} {mg mb : Str → Option Value} {a fa : Addr} {cs : List (Addr × Addr)} {s₁ : Shared} {vs : List Value} {xs : List V} {ts : List Addr}
theorem hp0_a {o : Obj} : hp0 a o xs ts a = some (.frz o (.lst xs)) := by unfold hp0; rw [if_pos rfl]
theorem hp0_t {o : Obj} {b : Addr} (h1 : b ≠ a) (h2 : b ∈ ts) : hp0 a o xs ts b = some (.tbl #[]) := by unfold hp0; rw [if_neg h1, if_pos h2]
theorem hp0_n {o : Obj} {b : Addr} (h1 : b ≠ a) (h2 : b ∉ ts) : hp0 a o xs ts b = none := by unfold hp0; rw [if_neg h1, if_neg h2]
theorem hp0_cases {o : Obj} {b : Addr} {u : HO} (h : hp0 a o xs ts b = some u) : (b = a ∧ u = .frz o (.lst xs)) ∨ (b ≠ a ∧ b ∈ ts ∧ u = .tbl #[]) := by
  by_cases h1 : b = a
  · subst h1
    rw [hp0_a] at h
    exact .inl ⟨rfl, (Option.some.inj h).symm⟩
  · by_cases h2 : b ∈ ts
    · rw [hp0_t h1 h2] at h
      exact .inr ⟨h1, h2, (Option.some.inj h).symm⟩
    · rw [hp0_n h1 h2] at h
      cases h
theorem law_callG {k : Nat} {fd : FuncData} {x : Str} {sp : Heap → Sp} {ns : List Int} {q : Program} {loose : List Str} {mean : ExcName → Option Value} (T : PyProof.Rows.Top q loose mean mg mb s₁.heap) (KX : K.In s₁.heap) (hg : s₁.gens = #[])
    (hT : ∀ p ∈ cs, s₁.heap.get? p.2 = some tab0) (nT : ∀ p ∈ cs, K.lookup p.2 = none) (hC : ∀ p ∈ cs, PySem.W.CodeHd s₁.heap p.1 p.2) (ha : s₁.heap.get? a = some (scr vs)) (nA : K.lookup a = none) (hi : IntsAre vs ns) (hl : ns.length ≤ sizeLine) (hr : Room k callerA)
    (F : ∀ base : Heap, K.In base → base.Ns mainGlobals mg → (∀ p ∈ cs, LamX.TabB base mg p.1 p.2) → FnG P w K mg base (L2.CX P w) k fa fd [x] (sp base)) (hbind : ∀ (s : Shared) (u : Value), BindsTo s fd ⟨[u], []⟩ [(x, u)])
    (hsp : ∀ (base : Heap) (H : Hp), (∀ p ∈ cs, H p.2 = some (.tbl #[])) → H a = some (.frz (scr vs) (.lst (ns.map V.int))) → sp base [.ref a] H (fun v _ => v = .bl true) fun _ _ _ => False) :
    codeAny (model P w) callerA (.call (.ref fa) ⟨[.ref a], []⟩) (fun r s' => r = .ok (.ret (.bool true)) ∧ OldK s₁.heap s'.heap ∧ s'.os = s₁.os ∧ AllBare s'.gens) s₁ := by
  have rv := vals_ints hi
  let Hq : Hp := hp0 a (scr vs) (ns.map V.int) (cs.map (·.2))
  have inT : ∀ {b : Addr}, b ∈ cs.map (·.2) → s₁.heap.get? b = some tab0 ∧ K.lookup b = none := fun {b} hb => by
    obtain ⟨p, hp, e⟩ := List.mem_map.mp hb
    subst e
    exact ⟨hT p hp, nT p hp⟩
  have neT : ∀ {b : Addr}, b ∈ cs.map (·.2) → b ≠ a := fun {b} hb e => by
    have := (inT hb).1
    rw [e, ha] at this
    cases this
  have off : ∀ {b : Addr} {o : Obj}, s₁.heap.get? b = some o → o ≠ scr vs → o ≠ tab0 → Hq b = none := fun {b o} e h1 h2 => by
    refine hp0_n (fun z => h1 ?_) fun z => h2 ?_
    · rw [z, ha] at e; exact (Option.some.inj e).symm
    · rw [(inT z).1] at e; exact (Option.some.inj e).symm
  have dic : ∀ {b : Addr} {o : Obj} {es : Array DictEntry} {ep : Nat}, s₁.heap.get? b = some o → o.data = .dict es ep → Hq b = none := fun {b o es ep} e d => off e (fun z => by rw [z] at d; cases d) fun z => by rw [z] at d; cases d
  have nsq : ∀ {b : Addr} {m : Str → Option Value}, s₁.heap.Ns b m → (hidT s₁.heap Hq).Ns b m := fun {b m} ⟨o, es, ep, e, d, r⟩ => ⟨o, es, ep, hidT_get e (dic e d), d, r⟩
  have KB : K.In (hidT s₁.heap Hq) := fun b o e => hidT_get (KX b o e) (hp0_n (fun z => by rw [z, nA] at e; cases e) fun z => by rw [(inT z).2] at e; cases e)
  have hok : HOk P w Hq s₁.heap := fun b u e => by
    rcases hp0_cases e with ⟨rfl, rfl⟩ | ⟨_, h2, rfl⟩
    · exact ⟨ha, by rw [List.length_map]; exact hl, vs, _, rv, ha⟩
    · exact (inT h2).1
  have M : L2.Mod K mg (hidT s₁.heap Hq) := ⟨KB, nsq T.g, ⟨mb, nsq T.b, T.builtins⟩, by obtain ⟨mc, h1, h2⟩ := T.nolimit; exact ⟨mc, nsq h1, h2⟩⟩
  have TB : ∀ p ∈ cs, LamX.TabB (hidT s₁.heap Hq) mg p.1 p.2 := fun p hp => by
    obtain ⟨o, us, file, tf, flags, tg, inF, text, tt, e1, r1, r2, r3, r4⟩ := hC p hp
    refine ⟨⟨o, us, file, tf, flags, tg, inF, text, tt, hidT_get e1 (off e1 (fun z => by rw [z] at r2; cases r2) fun z => by rw [z] at r2; cases r2; simp at r3), r1, r2, r3, r4⟩, ?_, fun z => ?_⟩
    · obtain ⟨bm, ob, b1, b2, b3, b4, b5, b6⟩ := T.bmain
      refine ⟨bm, ob, b1, b2, fun z => ?_, fun z => ?_, hidT_get b3 (off b3 (fun z => by rw [z] at b6; cases b6) fun z => by rw [z] at b6; cases b6), b4, b5, b6⟩
      · obtain ⟨o, es, ep, e, hd, _⟩ := T.g
        rw [z, e] at b3
        cases b3
        rw [hd] at b6
        cases b6
      · rw [z, hT p hp] at b3
        cases b3
        cases b6
    · obtain ⟨o, es, ep, e, hd, _⟩ := T.g
      rw [z, hT p hp] at e
      cases e
      cases hd
  have E0 : Env0 P w K mg (hidT s₁.heap Hq) callerA [] s₁ Hq := ⟨rfl, M, fun b o e => of_hidT e, Nat.le_of_eq (hidT_size _ _), trivial, fun b hb => absurd (show b ∈ ([] : List Addr) from hb) (by simp), hok, .of_eq hg⟩
  have go := (F _ KB (nsq T.g) TB).run callerA [] s₁ Hq ⟨[.ref a], []⟩ [.ref a] [.ref a] _ _ rfl hr E0 (hbind s₁ (.ref a)) (.cons rfl .nil) (hsp _ Hq (fun p hp => hp0_t (neT (List.mem_map.mpr ⟨p, hp, rfl⟩)) (List.mem_map.mpr ⟨p, hp, rfl⟩)) hp0_a)
  refine codeAny_mono go fun r s' h => ?_
  match r, h with
  | .error e, ⟨_, _, _, _, _, _, _, _, _, _, _, _, z⟩ => exact z.elim
  | .ok .next, h => exact False.elim h
  | .ok .brk, h => exact False.elim h
  | .ok .cont, h => exact False.elim h
  | .ok (.ret u), ⟨v, H', os, bare, un, hok', ru, ev⟩ =>
    have ev : v = .bl true := ev
    subst ev
    obtain rfl : u = Value.bool true := ru
    have kept : ∀ {b : Addr} {o : Obj}, b ∉ cs.map (·.2) → s₁.heap.get? b = some o → s'.heap.get? b = some o := fun {b o} nb e => by
      by_cases hb : b = a
      · subst hb
        have z := (hok' b _ (un.frzs b _ _ hp0_a)).1
        rw [ha] at e
        rw [← Option.some.inj e]
        exact z
      · exact un.keep b o e (hp0_n hb nb) (by intro z; exact absurd (show b ∈ ([] : List Addr) from z) (by simp)) (by simp)
    have more : ∀ {b : Addr}, b ∈ cs.map (·.2) → ∃ ws : Array Value, s'.heap.get? b = some { cls := .none, data := .fields ws } := fun {b} hb => by
      obtain ⟨ws, z⟩ := un.tbls b #[] (hp0_t (neT hb) hb)
      exact ⟨_, hok' b _ z⟩
    refine ⟨rfl, ⟨fun b o e => ?_, fun b o e => ?_⟩, os, bare⟩
    · by_cases hb : b ∈ cs.map (·.2)
      · obtain ⟨p, hp, ep⟩ := List.mem_map.mp hb
        subst ep
        obtain ⟨ws, z⟩ := more hb
        rw [hT p hp] at e
        cases e
        exact .inr (.inl ⟨((hC p hp).tab (hT p hp)).isCodeTable, rfl, #[], ws, rfl, by rw [Array.empty_append]; exact z⟩)
      · exact .inl (kept hb e)
    · by_cases hb : b ∈ cs.map (·.2)
      · obtain ⟨ws, z⟩ := more hb
        exact ⟨_, z⟩
      · exact ⟨o, kept hb e⟩
end
end Ip

set_option Elab.async false
set_option linter.all false
set_option maxRecDepth 100000
set_option maxHeartbeats 4000000
namespace Ip
open PySem PySem.Spec PyProof.Rows L2 He

/-! ### the head's Hook: objects that the module's names reach, no empty table, no list -/
def notL (o : Obj) : Bool := match o.cls with
  | .type c => !decide (c = "list")
  | _ => true
def frI (n : Nat) (g : Addr → Option Obj) : PySem.W.Frag := (frT g (List.range n)).filter fun q => notL q.2
theorem frI_mem {n : Nat} {g : Addr → Option Obj} {a : Addr} {o : Obj} (h : (frI n g).lookup a = some o) : g a = some o ∧ emptyTab o = false ∧ notL o = true := by
  obtain ⟨h1, h2⟩ := List.mem_filter.mp (lookup_mem h)
  obtain ⟨h3, h4⟩ := List.mem_filter.mp h1
  exact ⟨frG_mem h3, by simpa using h4, h2⟩
theorem frI_in {n : Nat} {h : Heap} : (frI n h.get?).In h := fun _ _ e => (frI_mem e).1
structure SaysI (D : List DefD) (tf : List Defn) (ex : PySem.W.Frag → Bool) (h : Heap) (K : PySem.W.Frag) : Prop where
  ex : ex K = true
  df : ∀ d ∈ D, ∃ fd, FunD K d.name d.qual d.params d.body d.scope (d.dvs K) (d.kws K) (fAd K d.at_) fd
  hd : ∀ p ∈ tf, PySem.W.codeHdIn K (cT K p).1 (cT K p).2 = true
  out : ∀ p ∈ tf, K.lookup (cT K p).2 = none
  empty : ∀ p ∈ tf, h.get? (cT K p).2 = some tab0
  nol : ∀ a o, K.lookup a = some o → notL o = true
abbrev AlI : Type := Bool × List FnW
def obsI (n : Nat) (D : List DefD) (tf : List Defn) (ex : PySem.W.Frag → Bool) (g : Addr → Option Obj) : AlI :=
  (ex (frI n g) && (tabsB g tf (frI n g) && D.all fun d => d.ok (frI n g)), D.map fun d => fnW (frI n g) d.at_)
def valI (D : List DefD) : AlI := (true, D.map DefD.val)
theorem saysI_of {n : Nat} {D : List DefD} {tf : List Defn} {ex : PySem.W.Frag → Bool} {h : Heap} (e : obsI n D tf ex h.get? = valI D) : SaysI D tf ex h (frI n h.get?) := by
  have e1 : (ex (frI n h.get?) && (tabsB h.get? tf (frI n h.get?) && D.all fun d => d.ok (frI n h.get?))) = true := congrArg (fun z : AlI => z.1) e
  have e2 : (D.map fun d => fnW (frI n h.get?) d.at_) = D.map DefD.val := congrArg (fun z : AlI => z.2) e
  obtain ⟨h1, h2⟩ := ba e1
  obtain ⟨h2, h3⟩ := ba h2
  have key : ∀ p ∈ tf, PySem.W.codeHdIn (frI n h.get?) (cT (frI n h.get?) p).1 (cT (frI n h.get?) p).2 = true ∧ ∃ o, h.get? (cT (frI n h.get?) p).2 = some o ∧ emptyTab o = true := fun p hp => by
    obtain ⟨h4, h5⟩ := ba (List.all_eq_true.mp h2 p hp)
    refine ⟨h4, ?_⟩
    cases q : h.get? (cT (frI n h.get?) p).2 with
    | none => rw [q] at h5; cases h5
    | some o => rw [q] at h5; exact ⟨o, rfl, h5⟩
  refine ⟨h1, fun d hd => ?_, fun p hp => (key p hp).1, fun p hp => ?_, fun p hp => ?_, fun a o q => (frI_mem q).2.2⟩
  · obtain ⟨i, hi, ei⟩ := List.mem_iff_getElem.mp hd
    have e3 : (D.map fun d => fnW (frI n h.get?) d.at_)[i]? = (D.map DefD.val)[i]? := by rw [e2]
    have ei' : D[i]? = some d := by rw [List.getElem?_eq_getElem hi, ei]
    rw [List.getElem?_map, List.getElem?_map, ei'] at e3
    exact DefD.funD (Option.some.inj e3) (List.all_eq_true.mp h3 d hd)
  · obtain ⟨_, o, q, z⟩ := key p hp
    cases e : (frI n h.get?).lookup (cT (frI n h.get?) p).2 with
    | none => rfl
    | some u =>
      obtain ⟨q1, q2, _⟩ := frI_mem e
      rw [q] at q1
      cases q1
      rw [z] at q2
      cases q2
  · obtain ⟨_, o, q, z⟩ := key p hp
    rw [q, emptyTab_eq z]
def hookI (n : Nat) (D : List DefD) (tf : List Defn) (ex : PySem.W.Frag → Bool) : PySem.W.Hook where
  α := AlI
  obs := fun s => obsI n D tf ex s.heap.get?
  val := fun _ => valI D
  says := fun _ h => ∃ K : PySem.W.Frag, K.In h ∧ SaysI D tf ex h K
  of := fun _ _ e => ⟨_, frI_in, saysI_of e⟩
  keeps := fun _ _ _ ⟨K, hK, c⟩ k => ⟨K, PySem.W.Frag.In.keeps hK k, ⟨c.ex, c.df, c.hd, c.out, fun p hp => k _ _ (c.empty p hp), c.nol⟩⟩
theorem obsI_eq {n : Nat} {D : List DefD} {tf : List Defn} {ex : PySem.W.Frag → Bool} {g : Addr → Option Obj} {s : Shared} (h : ∀ a, g a = s.heap.get? a) : obsI n D tf ex g = (hookI n D tf ex).obs s := by
  have e : g = s.heap.get? := funext h
  rw [e] <;> rfl

/-! ### a text and its facts -/
structure Cg where
  T : List Fn
  D : List DefD
  cn : List Str
  gc : List (Str × Vl)
  fb : List Str
  sn : List (Nat × List Str)
  mt : List (Nat × Str × Nat)
  cl : List (Nat × Str × Nat)
  xp : List (Nat × Str)
  xn : List (Nat × Str)
  ws : List (Nat × Str × Bool)
  wcn : List (Nat × Str)
  wn : Str
  wf : Str
  wi : Nat
  wa : Str
  we : Str
  wN : List Str
  tf : List Str
def Cg.ct (c : Cg) (F : Fn) (sc : Scope) : Ct := { N := F.N, sc := sc, fn := fun _ => true, T := c.T, gc := c.gc, fb := c.fb, sn := c.sn, mt := c.mt, cl := c.cl, xp := c.xp, ws := c.ws, wn := c.wn, wf := c.wf, gd := F.gd }
def Cg.tfD (c : Cg) : List Defn := c.tf.map fun x => (x, none)
def scB (N P : List Str) (sc : Scope) : Bool := decide (sc.kind = .function) && (!sc.isCoroutine && (!sc.isGenerator && (decide N.Nodup && (decide (N.take P.length = P) && ((P.all fun x => decide (sc.names.lookup x = some .local) || decide (sc.names.lookup x = some .cell)) && sc.names.all fun y => !decide (y.2 = .free))))))
theorem scB_ok {N P : List Str} {sc : Scope} (h : scB N P sc = true) : FnScope N P sc := by
  obtain ⟨h1, h⟩ := ba h
  obtain ⟨h2, h⟩ := ba h
  obtain ⟨h3, h⟩ := ba h
  obtain ⟨h4, h⟩ := ba h
  obtain ⟨h5, h⟩ := ba h
  obtain ⟨h6, h7⟩ := ba h
  refine ⟨of_decide_eq_true h1, by simpa using h2, by simpa using h3, of_decide_eq_true h4, of_decide_eq_true h5, fun x hx => ?_, fun y hy => ?_⟩
  · have := List.all_eq_true.mp h6 x hx
    rw [Bool.or_eq_true, decide_eq_true_eq, decide_eq_true_eq] at this
    exact this
  · have := List.all_eq_true.mp h7 y hy
    simpa using this
def parB : Arguments → List Str → Bool
  | ⟨[], as, none, [], [], none, []⟩, ps => decide (as.map (·.arg) = ps) && decide ps.Nodup
  | _, _ => false
theorem parB_ok {x q : Str} {pr : Arguments} {ps : List Str} {body : List Stmt} {sc : Scope} {K : PySem.W.Frag} {kws : List (Str × V)} {f : Addr} {fd : FuncData} (h : parB pr ps = true) (F : FunD K x q pr body sc [] kws f fd) : Binds K fd ps [] := by
  unfold parB at h
  split at h
  · rename_i as ps
    rw [Bool.and_eq_true, decide_eq_true_eq, decide_eq_true_eq] at h
    obtain ⟨h1, h2⟩ := h
    subst h1
    exact F.bindsN fun kV doc pm an cdv ct us hl => bind_plain h2 hl
  · cases h
theorem parB_okA {x q : Str} {pr : Arguments} {ps : List Str} {body : List Stmt} {sc : Scope} {K : PySem.W.Frag} {kws : List (Str × V)} {f : Addr} {fd : FuncData} (h : parB pr ps = true) (F : FunD K x q pr body sc [] kws f fd) (s : Shared) (us : List Value) (hl : us.length = ps.length) : BindsTo s fd ⟨us, []⟩ (ps.zip us) := by
  unfold parB at h
  split at h
  · rename_i as ps
    rw [Bool.and_eq_true, decide_eq_true_eq, decide_eq_true_eq] at h
    obtain ⟨h1, h2⟩ := h
    subst h1
    exact F.bindsA (fun kV doc pm an cdv ct us hl => bind_plain h2 hl) s us hl
  · cases h
/-- one function: the text is the term's -/
def txF (c : Cg) (F : Fn) (d : DefD) : Bool := Nat.ble F.ar F.N.length && (scB F.N (F.N.take F.ar) d.scope && ((!F.glo || decide (d.at_ = (F.name, none))) && (d.dfl.isEmpty && (d.kwd.isEmpty && (parB d.params (F.N.take F.ar) && ((!F.gd || (decide (d.at_ = (d.qual, none)) && decide (d.qual ∈ c.tf))) && mSs (c.ct F d.scope) c.xn F.body d.body))))))
def txL (c : Cg) : List Fn → List DefD → Bool
  | [], ds => ds.isEmpty
  | F :: Fs, ds => match ds with
    | d :: ds => txF c F d && txL c Fs ds
    | [] => false
theorem txL_at {c : Cg} : ∀ {Fs : List Fn} {ds : List DefD}, txL c Fs ds = true → ∀ (f : Nat) (F : Fn), Fs[f]? = some F → ∃ d, ds[f]? = some d ∧ txF c F d = true
  | [], ds, h, f, F, e => by simp at e
  | G :: Fs, ds, h, f, F, e => by
    unfold txL at h
    cases ds with
    | nil => cases h
    | cons d ds =>
      obtain ⟨h1, h2⟩ := ba h
      cases f with
      | zero => simp at e; subst e; exact ⟨d, rfl, h1⟩
      | succ f =>
        obtain ⟨d', a, b⟩ := txL_at h2 f F (by simpa using e)
        exact ⟨d', by simpa using a, b⟩
def payNB (N : List Str) (sg : Scope) (e : Str) : Bool := decide (N[1]? = some e) && (decide (sg.names.lookup e = some .local) && (nmB e && decide (sg.names.lookup ("repr" : Str) = some .globalImplicit)))
theorem payNB_ok {N : List Str} {sg : Scope} {e : Str} (h : payNB N sg e = true) : PayN N sg e := by
  obtain ⟨h1, h⟩ := ba h
  obtain ⟨h2, h⟩ := ba h
  obtain ⟨h3, h4⟩ := ba h
  exact ⟨of_decide_eq_true h1, of_decide_eq_true h2, (nm_ok h3).1, (nm_ok h3).2, of_decide_eq_true h4⟩
/-- the word function: the text is as asked -/
def txW (c : Cg) : Bool := match c.D[c.wi]? with
  | some d => decide (d.at_ = (c.wn, none)) && (decide (d.name = c.wn) && (decide (d.qual = c.wn) && (d.dfl.isEmpty && (d.kwd.isEmpty && (scB c.wN [c.wa] d.scope && (decide (c.wN[0]? = some c.wa) && (visB d.scope c.wa && (nmB c.wa && (parB d.params [c.wa] && (((c.ws.all fun p => !p.2.2) || payNB c.wN d.scope c.we) && mW c.wcn d.scope c.wa c.we c.ws c.wf d.body))))))))))
  | none => false
def caI (c : Cg) (K : PySem.W.Frag) (i : Nat) : Addr := ga K (c.cn.getD i "")
def atI_ (c : Cg) (f : Nat) : Defn := match c.D[f]? with
  | some d => d.at_
  | none => ("", none)
def fdOf (K : PySem.W.Frag) (a : Addr) : FuncData := match K.lookup a with
  | some ⟨_, _, .func fd, _⟩ => fd
  | _ => default
def slotsB (K : PySem.W.Frag) (C : Addr) : Nat → List Str → Bool
  | _, [] => true
  | i, f :: fs => slot1B K C f i && slotsB K C (i + 1) fs
theorem slotsB_ok {K : PySem.W.Frag} {C : Addr} : ∀ {fs : List Str} {j : Nat}, slotsB K C j fs = true → ∀ (i : Nat) (f : Str), fs[i]? = some f → slot1B K C f (j + i) = true
  | [], _, _, i, f, e => by simp at e
  | g :: fs, j, h, i, f, e => by
    obtain ⟨h1, h2⟩ := ba h
    cases i with
    | zero => simp at e; subst e; exact h1
    | succ i =>
      have := slotsB_ok h2 i f (by simpa using e)
      rw [← Nat.add_assoc, Nat.add_right_comm]
      exact this
/-- all that is asked of the written part -/
def exI (c : Cg) (file : Str) (K : PySem.W.Frag) : Bool :=
  (c.gc.all fun p => constB K p) && ((c.fb.all fun x => freeIn K x) && ((c.sn.all fun q => sclsB K (caI c K q.1) && slotsB K (caI c K q.1) 0 q.2) && ((c.mt.all fun q => sclsB K (caI c K q.1) && methB K (caI c K q.1) q.2.1 (fAd K (atI_ c q.2.2))) &&
  ((c.cl.all fun q => decide (c.cn.getD q.1 "" = q.2.1) && (gloB K q.2.1 && mkB K (caI c K q.1) (fAd K (atI_ c q.2.2)))) && ((c.xp.all fun q => decide (c.cn.getD q.1 "" = q.2) && (gloB K q.2 && refB K file (caI c K q.1))) && ((c.xn.all fun q => decide (c.cn.getD q.1 "" = q.2) && (gloB K q.2 && (ndb q.2 && excB K (caI c K q.1)))) &&
  ((c.wcn.all fun q => decide (c.cn.getD q.1 "" = q.2) && gloB K q.2) && ((c.ws.all fun p => c.ws.all fun r => decide (PySem.W.exmOne K (.ref (caI c K p.1)) (.ref (caI c K r.1)) = some (Nat.beq r.1 p.1))) && ((c.ws.all fun p => !p.2.2 || (xfB K (caI c K p.1) && decide (PySem.W.findIn K (.ref (caI c K p.1)) "reason" = some none))) && (freeIn K "repr" &&
  ((c.T.all fun F => !F.glo || gloB K F.name) && ((decide (c.wi = 999) || gloB K c.wn) && decide (c.tfD.map fun p => (cT K p).2).Nodup))))))))))))
def Cg.lw (c : Cg) (P : Program) (w : World) (K : PySem.W.Frag) (mg : Str → Option Value) (base : Heap) : Lw where
  P := P
  w := w
  K := K
  mg := mg
  base := base
  fa := fun f => fAd K (atI_ c f)
  fd := fun f => fdOf K (fAd K (atI_ c f))
  ca := caI c K
  tb := c.tf.map fun x => ((cT K (x, none)).2, (x ++ ".<locals>.") ++ "<lambda>")
  xf := fun _ => "reason"
end Ip

set_option Elab.async false
set_option linter.all false
set_option maxRecDepth 100000
set_option maxHeartbeats 4000000
namespace Ip
open PySem PySem.Spec PyProof.Rows L2 He

theorem nodup_inj {α β : Type} {g : α → β} : ∀ {l : List α}, (l.map g).Nodup → ∀ x ∈ l, ∀ y ∈ l, g x = g y → x = y
  | [], _, x, hx, _, _, _ => by cases hx
  | z :: l, h, x, hx, y, hy, e => by
    rw [List.map_cons, List.nodup_cons] at h
    rcases List.mem_cons.mp hx with hx | hx
    · rcases List.mem_cons.mp hy with hy | hy
      · rw [hx, hy]
      · exact (h.1 (List.mem_map.mpr ⟨y, hy, by rw [← e, hx]⟩)).elim
    · rcases List.mem_cons.mp hy with hy | hy
      · exact (h.1 (List.mem_map.mpr ⟨x, hx, by rw [e, hy]⟩)).elim
      · exact nodup_inj h.2 x hx y hy e
section
variable {c : Cg} {P : Program} {w : World} {K : PySem.W.Frag} {mg : Str → Option Value} {h base : Heap}
theorem fun_of (S : SaysI c.D c.tfD (exI c P.main.file) h K) {d : DefD} (hd : d ∈ c.D) (h1 : d.dfl.isEmpty = true) (h2 : d.kwd.isEmpty = true) : FunD K d.name d.qual d.params d.body d.scope [] [] (fAd K d.at_) (fdOf K (fAd K d.at_)) := by
  obtain ⟨fd, F⟩ := S.df d hd
  have e1 : d.dvs K = [] := by
    unfold DefD.dvs
    rw [List.isEmpty_iff.mp h1]; rfl
  have e2 : d.kws K = [] := by
    unfold DefD.kws
    rw [List.isEmpty_iff.mp h2]; rfl
  rw [e1, e2] at F
  obtain ⟨oc, od, dV, kV, doc, pm, an, cdv, ct, osl, e, lk, _⟩ := id F.ex
  have : fdOf K (fAd K d.at_) = fd := by
    unfold fdOf
    rw [lk]
  rw [this]
  exact F
theorem txL_len : ∀ {Fs : List Fn} {ds : List DefD}, txL c Fs ds = true → Fs.length = ds.length
  | [], ds, e => by
    unfold txL at e
    rw [List.isEmpty_iff.mp e]; rfl
  | F :: Fs, ds, e => by
    unfold txL at e
    cases ds with
    | nil => cases e
    | cons d ds =>
      obtain ⟨_, e2⟩ := ba e
      rw [List.length_cons, List.length_cons, txL_len e2]
theorem cg_fns (tx : txL c c.T c.D = true) (tw : c.wi = 999 ∨ txW c = true) (S : SaysI c.D c.tfD (exI c P.main.file) h K) (X : K.In h) (G : h.Ns mainGlobals mg) (ht : (P.main.scope.names.lookup ("super" : Str)).isSome = false)
    (hgd : c.wi = 999 → ∀ F ∈ c.T, F.gd = false) (TB : ∀ p ∈ c.tfD, LamX.TabB base mg (cT K p).1 (cT K p).2) :
    FnI (c.lw P w K mg base) c.T ∧ (∀ (f : Nat) (F : Fn), c.T[f]? = some F → Fd (c.lw P w K mg base) c.T c.xn f F) ∧ Xk (c.lw P w K mg base) c.xn := by
  obtain ⟨x1, xs⟩ := ba S.ex
  obtain ⟨x2, xs⟩ := ba xs
  obtain ⟨x3, xs⟩ := ba xs
  obtain ⟨x4, xs⟩ := ba xs
  obtain ⟨x5, xs⟩ := ba xs
  obtain ⟨x6, xs⟩ := ba xs
  obtain ⟨x7, xs⟩ := ba xs
  obtain ⟨x8, xs⟩ := ba xs
  obtain ⟨x9, xs⟩ := ba xs
  obtain ⟨x10, xs⟩ := ba xs
  obtain ⟨x11, xs⟩ := ba xs
  obtain ⟨x12, xs⟩ := ba xs
  obtain ⟨x14, x13⟩ := ba xs
  have x13 := of_decide_eq_true x13
  have at_of : ∀ {f : Nat} {d : DefD}, c.D[f]? = some d → atI_ c f = d.at_ := fun {f d} e => by
    unfold atI_; rw [e]
  have caE : ∀ {i : Nat} {x : Str}, c.cn.getD i "" = x → caI c K i = ga K x := fun {i x} e => by
    unfold caI; rw [e]
  -- one function
  have one : ∀ (f : Nat) (F : Fn), c.T[f]? = some F → ∃ d, c.D[f]? = some d ∧ txF c F d = true ∧ FunD K d.name d.qual d.params d.body d.scope [] [] ((c.lw P w K mg base).fa f) ((c.lw P w K mg base).fd f) := fun f F hF => by
    obtain ⟨d, hd, t⟩ := txL_at tx f F hF
    obtain ⟨_, t2⟩ := ba t
    obtain ⟨_, t2⟩ := ba t2
    obtain ⟨_, t2⟩ := ba t2
    obtain ⟨t4, t2⟩ := ba t2
    obtain ⟨t5, t2⟩ := ba t2
    refine ⟨d, hd, t, ?_⟩
    have := fun_of S (List.mem_of_getElem? hd) t4 t5
    show FunD K d.name d.qual d.params d.body d.scope [] [] (fAd K (atI_ c f)) (fdOf K (fAd K (atI_ c f)))
    rw [at_of hd]
    exact this
  have cw : ∀ (F : Fn) (sc : Scope), Cw (c.ct F sc) (c.lw P w K mg base) c.T := fun F sc => by
    refine ⟨rfl, fun p hp => ?_, fun x hx => freeIn_ok X G (List.all_eq_true.mp x2 x hx), fun q hq i f hf => ?_, fun q hq => ?_, fun q hq => ?_, fun q hq => ?_⟩
    · obtain ⟨u, w', m1, m2, m3⟩ := constB_ok X G (List.all_eq_true.mp x1 p hp)
      exact ⟨u, w', m1, m2, fun ρ H => m3 _ ρ H⟩
    · obtain ⟨s1, s2⟩ := ba (List.all_eq_true.mp x3 q hq)
      have := slotsB_ok s2 i f hf
      rw [Nat.zero_add] at this
      exact ⟨sclsB_ok s1, slot1B_ok this⟩
    · obtain ⟨s1, s2⟩ := ba (List.all_eq_true.mp x4 q hq)
      exact ⟨sclsB_ok s1, methB_ok s2⟩
    · obtain ⟨s1, s2⟩ := ba (List.all_eq_true.mp x6 q hq)
      obtain ⟨s2, s3⟩ := ba s2
      have e := caE (of_decide_eq_true s1)
      refine ⟨?_, rfl, refB_ok X G ht s3⟩
      show mg q.2 = some (.ref (caI c K q.1))
      rw [e]
      exact gloB_ok X G s2
    · obtain ⟨s1, s2⟩ := ba (List.all_eq_true.mp x5 q hq)
      obtain ⟨s2, s3⟩ := ba s2
      have e := caE (of_decide_eq_true s1)
      refine ⟨?_, mkB_ok s3⟩
      show mg q.2.1 = some (.ref (caI c K q.1))
      rw [e]
      exact gloB_ok X G s2
  have xk : Xk (c.lw P w K mg base) c.xn := fun q hq Y hK hm hg p m j p2 pos => by
    obtain ⟨s1, s2⟩ := ba (List.all_eq_true.mp x7 q hq)
    obtain ⟨s2, s3⟩ := ba s2
    obtain ⟨s3, s4⟩ := ba s3
    have e := caE (of_decide_eq_true s1)
    refine excB_ok s4 hK ?_ hg s3 p m j p2 pos
    rw [hm]
    show mg q.2 = some (.ref (caI c K q.1))
    rw [e]
    exact gloB_ok X G s2
  have wk : WordK (c.lw P w K mg base) c.wcn c.ws := by
    refine ⟨fun q hq => ?_, fun p hp r hr => of_decide_eq_true (List.all_eq_true.mp (List.all_eq_true.mp x9 p hp) r hr), fun p hp hb => ?_, freeIn_ok X G x11⟩
    · obtain ⟨s1, s2⟩ := ba (List.all_eq_true.mp x8 q hq)
      have e := caE (of_decide_eq_true s1)
      show mg q.2 = some (.ref (caI c K q.1))
      rw [e]
      exact gloB_ok X G s2
    · have := List.all_eq_true.mp x10 p hp
      rw [hb] at this
      obtain ⟨s1, s2⟩ := ba (show (xfB K (caI c K p.1) && decide (PySem.W.findIn K (.ref (caI c K p.1)) "reason" = some none)) = true from this)
      exact ⟨xfB_ok s1, of_decide_eq_true s2, rfl⟩
  have wf : c.wi = 999 ∨ Wf (c.lw P w K mg base) c.wn c.ws c.wf := by
    by_cases e9 : c.wi = 999
    · exact .inl e9
    right
    have tw := tw.resolve_left e9
    unfold txW at tw
    split at tw
    · rename_i d hd
      obtain ⟨a1, a⟩ := ba tw
      obtain ⟨a2, a⟩ := ba a
      obtain ⟨a3, a⟩ := ba a
      obtain ⟨a4, a⟩ := ba a
      obtain ⟨a5, a⟩ := ba a
      obtain ⟨a6, a⟩ := ba a
      obtain ⟨a7, a⟩ := ba a
      obtain ⟨a8, a⟩ := ba a
      obtain ⟨a9, a⟩ := ba a
      obtain ⟨a10, a⟩ := ba a
      obtain ⟨a11, a12⟩ := ba a
      have a1 := of_decide_eq_true a1
      have a2 := of_decide_eq_true a2
      have a3 := of_decide_eq_true a3
      have FD := fun_of S (List.mem_of_getElem? hd) a4 a5
      rw [a1, a2, a3] at FD
      have bd := parB_ok a10 FD
      obtain ⟨oc, od, dV, kV, doc, pm, an, cdv, ct, osl, efd, lk, hcd, _, _⟩ := id FD.ex
      rw [efd] at lk bd
      have hg : mg c.wn = some (.ref (ga K c.wn)) := by
        rw [Bool.or_eq_true, decide_eq_true_eq] at x14
        exact gloB_ok X G (x14.resolve_left e9)
      refine ⟨ga K c.wn, oc, dV, kV, doc, pm, cdv, ct, od, an, osl, d.params, d.body, d.scope, c.wN, c.wa, c.we, c.wcn, hg, ?_, lk, hcd, bd, scB_ok a6, of_decide_eq_true a7, vis_ok a8, a9, ?_, wk, a12⟩
      · exact FD.kp
      · rw [Bool.or_eq_true] at a11
        exact a11.imp id payNB_ok
    · cases tw
  refine ⟨⟨fun f F hF hgl => ?_, fun f F hF => ?_, fun f F hF => ?_⟩, fun f F hF => ?_, xk⟩
  · obtain ⟨d, hd, t, _⟩ := one f F hF
    obtain ⟨_, t2⟩ := ba t
    obtain ⟨_, t2⟩ := ba t2
    obtain ⟨t3, _⟩ := ba t2
    rw [hgl] at t3
    have e : d.at_ = (F.name, none) := of_decide_eq_true (by simpa using t3)
    have gl := List.all_eq_true.mp x12 F (List.mem_of_getElem? hF)
    rw [hgl] at gl
    show mg F.name = some (.ref (fAd K (atI_ c f)))
    rw [at_of hd, e]
    exact gloB_ok X G (by simpa using gl)
  · obtain ⟨d, hd, t, FD⟩ := one f F hF
    exact FD.kp
  · obtain ⟨d, hd, t, FD⟩ := one f F hF
    obtain ⟨_, t2⟩ := ba t
    obtain ⟨_, t2⟩ := ba t2
    obtain ⟨_, t2⟩ := ba t2
    obtain ⟨_, t2⟩ := ba t2
    obtain ⟨_, t2⟩ := ba t2
    obtain ⟨t6, _⟩ := ba t2
    exact parB_ok t6 FD
  · obtain ⟨d, hd, t, FD⟩ := one f F hF
    obtain ⟨t1, t2⟩ := ba t
    obtain ⟨tS, t2⟩ := ba t2
    obtain ⟨_, t2⟩ := ba t2
    obtain ⟨_, t2⟩ := ba t2
    obtain ⟨_, t2⟩ := ba t2
    obtain ⟨_, t2⟩ := ba t2
    obtain ⟨t7, t8⟩ := ba t2
    refine ⟨Nat.le_of_ble_eq_true t1, d.name, d.qual, d.params, d.body, d.scope, c.ct F d.scope, FD, scB_ok tS, rfl, rfl, rfl, rfl, cw F d.scope, t8, fun hg => ?_⟩
    have wf' : Wf (c.lw P w K mg base) c.wn c.ws c.wf := by
      rcases wf with e | e
      · have := hgd e F (List.mem_of_getElem? hF)
        rw [hg] at this
        cases this
      · exact e
    rw [hg] at t7
    have t7 : (decide (d.at_ = (d.qual, none)) && decide (d.qual ∈ c.tf)) = true := by simpa using t7
    obtain ⟨e1, e2⟩ := ba t7
    have e1 := of_decide_eq_true e1
    have e2 := of_decide_eq_true e2
    obtain ⟨oc, od, dV, kV, doc, pm, an, cdv, ct, osl, efd, lk, hcd, _, _⟩ := id FD.ex
    obtain ⟨cc, rfl⟩ := codeIn_ref hcd
    have lk' : K.lookup (fAd K (d.qual, none)) = some ⟨oc, od, .func ((c.lw P w K mg base).fd f), osl⟩ := by
      have : (c.lw P w K mg base).fa f = fAd K (d.qual, none) := by
        show fAd K (atI_ c f) = _
        rw [at_of hd, e1]
      rw [← this]
      exact lk
    have hcode : ((c.lw P w K mg base).fd f).code = .ref cc := by rw [efd]
    have ecc : codeOf K (d.qual, none) = cc := codeOf_eq lk' hcode
    have hp : (d.qual, none) ∈ c.tfD := List.mem_map.mpr ⟨d.qual, e2, rfl⟩
    have tb := TB _ hp
    refine ⟨wf', cc, (cT K (d.qual, none)).2, hcode, ?_, List.mem_map.mpr ⟨d.qual, e2, rfl⟩, fun p hp2 e => ?_⟩
    · have : (cT K (d.qual, none)).1 = cc := ecc
      rw [← this]
      exact tb
    · obtain ⟨y, hy, rfl⟩ := List.mem_map.mp hp2
      have : ((y, none) : Defn) = (d.qual, none) := nodup_inj x13 _ (List.mem_map.mpr ⟨y, hy, rfl⟩) _ hp e
      injection this with this _
      rw [this]
end
end Ip

set_option Elab.async false
set_option linter.all false
set_option maxRecDepth 100000
set_option maxHeartbeats 4000000
namespace Ip
open PySem PySem.Spec PyProof.Rows L2 He

/-! ### a law from its evaluation -/
theorem reps_ints {L : Lw} {ρ : List Addr} {H : Hp} : ∀ ns : List Int, Reps L ρ H (ns.map Vl.int) (ns.map V.int)
  | [] => .nil
  | n :: ns => .cons (.int n) (reps_ints ns)
theorem law_walk (c : Cg) (l : PySem.W.OpenLaw) {q : Program} {loose : List Str} {XP : (Str → Option Value) → Heap → Prop} {d : DefRec} (N lf nM : Nat) (F : Fn) (dd : DefD) (hF : c.T[lf]? = some F) (hD : c.D[lf]? = some dd) (hgd : F.gd = true) (har : F.N.take F.ar = [("script" : Str)]) (hat : dd.at_ = (d.name, none)) (hnm : F.name = d.name) (hgl : F.glo = true)
    (hn : l.most = some 63) (hdf : d.params.defaults = []) (hr : Room (4 * N) callerA) (tx : txL c c.T c.D = true) (tw : txW c = true) (hwi : c.wi ≠ 999) (ht : (l.prog.main.scope.names.lookup ("super" : Str)).isSome = false)
    (ev : ∀ ns : List Int, ns.length ≤ 63 → (∀ z ∈ ns, Builtin.Int.intBits z ≤ 1048576) → ∃ h', callN c.T N lf [.ref 0] [.ro (ns.map .int)] = .ok (.bl true) h') :
    PySem.W.WalkO q loose XP (hookI nM c.D c.tfD (exI c l.prog.main.file)).says l.row.toRowW d [] (fun f vs => PySem.call f vs) := by
  refine Att.attach_callB hn hdf fun w s₀ s₁ mg mb fa o pm cd doc a vs ns G Y ho hd hcd hmg hobj hints hlen hbits hg => ?_
  obtain ⟨K, KX, S⟩ := Y
  have nA : K.lookup a = none := by
    cases e : K.lookup a with
    | none => rfl
    | some u =>
      have z := S.nol a u e
      have := (KX a u e).symm.trans hobj
      rw [Option.some.inj this] at z
      cases z
  have xs := S.ex
  have gl : gloB K F.name = true := by
    unfold exI at xs
    simp only [Bool.and_eq_true] at xs
    have := List.all_eq_true.mp xs.2.2.2.2.2.2.2.2.2.2.2.1 F (List.mem_of_getElem? hF)
    rw [hgl] at this
    simpa using this
  have e1 := gloB_ok KX G.T.g gl
  rw [hnm, hmg] at e1
  have efa : fa = ga K d.name := by injection e1 with e1; injection e1
  subst efa
  have eat : atI_ c lf = (d.name, none) := by
    unfold atI_
    rw [hD]
    exact hat
  have cg : ∀ base : Heap, (∀ p ∈ c.tfD, LamX.TabB base mg (cT K p).1 (cT K p).2) → FnI (c.lw l.prog w K mg base) c.T ∧ (∀ (f : Nat) (F : Fn), c.T[f]? = some F → Fd (c.lw l.prog w K mg base) c.T c.xn f F) ∧ Xk (c.lw l.prog w K mg base) c.xn :=
    fun base TB => cg_fns tx (.inr tw) S KX G.T.g ht (fun e => (hwi e).elim) TB
  have FD : FunD K dd.name dd.qual dd.params dd.body dd.scope [] [] (fAd K dd.at_) (fdOf K (fAd K dd.at_)) ∧ parB dd.params (F.N.take F.ar) = true := by
    obtain ⟨d', hd', t⟩ := txL_at tx lf F hF
    rw [hD] at hd'
    cases hd'
    obtain ⟨_, t2⟩ := ba t
    obtain ⟨_, t2⟩ := ba t2
    obtain ⟨_, t2⟩ := ba t2
    obtain ⟨t4, t2⟩ := ba t2
    obtain ⟨t5, t2⟩ := ba t2
    obtain ⟨t6, _⟩ := ba t2
    exact ⟨fun_of S (List.mem_of_getElem? hD) t4 t5, t6⟩
  refine law_callG (k := 4 * N) (cs := c.tfD.map (cT K)) (fd := fdOf K (ga K d.name)) (x := "script") (sp := fun base => spOf (c.lw l.prog w K mg base) (callN c.T N) lf) G.T KX hg (fun p hp => ?_) (fun p hp => ?_) (fun p hp => ?_) hobj nA hints (Nat.le_trans hlen (by rw [sizeLine_eq]; decide)) hr (fun base KB NB TB => ?_) (fun s u => ?_) fun base H hT hA => ?_
  · obtain ⟨y, hy, rfl⟩ := List.mem_map.mp hp
    exact S.empty y hy
  · obtain ⟨y, hy, rfl⟩ := List.mem_map.mp hp
    exact S.out y hy
  · obtain ⟨y, hy, rfl⟩ := List.mem_map.mp hp
    exact PySem.W.codeHd_of_K KX (S.hd y hy)
  · obtain ⟨I, D, xk⟩ := cg base fun p hp => TB _ (List.mem_map.mpr ⟨p, hp, rfl⟩)
    have := (fns_ok I D xk N).2 lf F hF hgd
    rw [har] at this
    have e : (c.lw l.prog w K mg base).fa lf = ga K d.name := by
      show fAd K (atI_ c lf) = _
      rw [eat]; rfl
    have e2 : (c.lw l.prog w K mg base).fd lf = fdOf K (ga K d.name) := by
      show fdOf K (fAd K (atI_ c lf)) = _
      rw [eat]; rfl
    rw [e, e2] at this
    exact this
  · have := parB_okA FD.2 FD.1 s [u] (by rw [har]; rfl)
    rw [har, hat] at this
    exact this
  · obtain ⟨h', e⟩ := ev ns hlen hbits
    refine ⟨[a], [.ro (ns.map .int)], [.ref 0], ⟨rfl, by simp, fun i b o e1 e2 => ?_, fun p hp => ?_⟩, .cons (.ref rfl) .nil, ?_⟩
    · cases i with
      | zero =>
        simp at e1 e2
        subst e1 e2
        exact .ro hA (reps_ints ns)
      | succ i => simp at e1
    · obtain ⟨y, hy, rfl⟩ := List.mem_map.mp hp
      exact LamX.TabS.nil (hT _ (List.mem_map.mpr ⟨(y, none), List.mem_map.mpr ⟨y, hy, rfl⟩, rfl⟩))
    · rw [e]
      intro ρ' H' st S' v rv
      cases rv
      rfl
end Ip

set_option Elab.async false
set_option linter.all false
set_option maxRecDepth 100000
set_option maxHeartbeats 0
namespace Tx
open PySem PySem.Spec PyProof.Rows L2 Ip
def top (i : Nat) : Stmt := PySem.Challenge.pw_staypairs_k76_errors_of_ties.main.body.getD i (.Pass ⟨0, 0, 0, 0⟩)
def mth (i j : Nat) : Stmt := match top i with
  | .ClassDef (body := b) .. => b.getD j (.Pass ⟨0, 0, 0, 0⟩)
  | s => s
def wds : List (Nat × Str × Bool) := [(3, "ties", false), (1, "wishes", false), (2, "pairing", false), (4, "operation", false), (5, "refused ", true)]
def F0 : Fn := ⟨"is_whole", true, false, 1, ["value"],
  (.cons (.ret (.and_ (.isi (.var 0) .int) (.not_ (.isi (.var 0) .bool))))
  .nil)⟩
def F1 : Fn := ⟨"is_within", true, false, 3, ["value", "least", "most"],
  (.cons (.ret (.and_ (.call 0 (.cons (.var 0) .nil)) (.chn .le .le (.var 1) (.var 0) (.var 2))))
  .nil)⟩
def F2 : Fn := ⟨"is_pair", true, false, 1, ["value"],
  (.cons (.ret (.and_ (.isi (.var 0) .tuple) (.cmp .eq (.blt .len (.cons (.var 0) .nil)) (.glob "PAIR_SIZE" (.int 2)))))
  .nil)⟩
def F3 : Fn := ⟨"is_ascending", true, false, 1, ["items", "one", "other"],
  (.cons (.ret (.blt .all (.cons (.lc [1, 2] (.tup (.cons (.name 1) (.cons (.name 2) .nil))) (.zip (.var 0) (.slc (.var 0) (.som (.int 1)) .non)) .non (.cmp .lt (.var 1) (.var 2))) .nil)))
  .nil)⟩
def F4 : Fn := ⟨"key_kind", true, false, 1, ["key", "kinds", "member"],
  (.cons (.if_ (.and_ (.val (.isi (.var 0) .int)) (.not_ (.val (.isi (.var 0) .bool)))) (.cons (.ret (.str "whole"))
  .nil) .nil)
  (.cons (.if_ (.val (.isi (.var 0) .str)) (.cons (.ret (.str "string"))
  .nil) .nil)
  (.cons (.if_ (.not_ (.val (.isi (.var 0) .tuple))) (.cons (.ret .non)
  .nil) .nil)
  (.cons (.asg (.name 1) (.blt .tuple (.cons (.lc [2] (.name 2) (.vals (.var 0)) .non (.call 4 (.cons (.var 2) .nil))) .nil)))
  (.cons (.ret (.ite_ (.cmp .in_ .non (.var 1)) .non (.var 1)))
  .nil)))))⟩
def F5 : Fn := ⟨"sorted_keys", true, false, 1, ["kept", "kinds", "key"],
  (.cons .dead
  (.cons (.ret (.ite_ (.and_ (.cmp .eq (.blt .len (.cons (.var 1) .nil)) (.int 1)) (.cmp .nin .non (.var 1))) (.blt .sorted (.cons (.var 0) .nil)) (.blt .list (.cons (.var 0) .nil))))
  .nil))⟩
def F6 : Fn := ⟨"copied", true, false, 1, ["value", "member", "key"],
  (.cons (.if_ (.val (.isi (.var 0) .tuple)) (.cons (.ret (.blt .tuple (.cons (.lc [1] (.name 1) (.vals (.var 0)) .non (.call 6 (.cons (.var 1) .nil))) .nil)))
  .nil) .nil)
  (.cons (.if_ (.val (.isi (.var 0) .list)) (.cons (.ret (.lc [1] (.name 1) (.vals (.var 0)) .non (.call 6 (.cons (.var 1) .nil))))
  .nil) .nil)
  (.cons (.if_ (.val (.isi (.var 0) .dict)) (.cons (.ret (.dc false [2] (.name 2) (.vals (.call 5 (.cons (.var 0) .nil))) .non (.var 2) (.call 6 (.cons (.ix (.var 0) (.var 2)) .nil))))
  .nil) .nil)
  (.cons (.ret (.var 0))
  .nil))))⟩
def F7 : Fn := ⟨"is_side_of_lists", true, false, 2, ["value", "most", "row"],
  (.cons (.if_ (.or_ (.not_ (.val (.isi (.var 0) .tuple))) (.not_ (.chn .le .le (.int 1) (.blt .len (.cons (.var 0) .nil)) (.glob "MOST_PERSONS_lists" (.int 40))))) (.cons (.ret (.bl false))
  .nil) .nil)
  (.cons (.ret (.blt .all (.cons (.lc [2] (.name 2) (.vals (.var 0)) .non (.call 8 (.cons (.var 2) (.cons (.var 1) .nil)))) .nil)))
  .nil))⟩
def F8 : Fn := ⟨"is_list_of", true, false, 2, ["value", "most", "one"],
  (.cons (.if_ (.or_ (.not_ (.val (.isi (.var 0) .tuple))) (.not_ (.val (.blt .all (.cons (.lc [2] (.name 2) (.vals (.var 0)) .non (.call 1 (.cons (.var 2) (.cons (.int 0) (.cons (.bin .sub (.var 1) (.int 1)) .nil))))) .nil))))) (.cons (.ret (.bl false))
  .nil) .nil)
  (.cons (.ret (.cmp .eq (.blt .len (.cons (.dc false [2] (.name 2) (.vals (.var 0)) .non (.var 2) (.bl true)) .nil)) (.blt .len (.cons (.var 0) .nil))))
  .nil))⟩
def F9 : Fn := ⟨"has_form", true, false, 1, ["value"],
  (.cons (.if_ (.or_ (.not_ (.val (.call 2 (.cons (.var 0) .nil)))) (.or_ (.not_ (.val (.isi (.ix (.var 0) (.int 0)) .tuple))) (.not_ (.val (.isi (.ix (.var 0) (.int 1)) .tuple))))) (.cons (.ret (.bl false))
  .nil) .nil)
  (.cons (.ret (.and_ (.call 7 (.cons (.ix (.var 0) (.int 0)) (.cons (.blt .len (.cons (.ix (.var 0) (.int 1)) .nil)) .nil))) (.call 7 (.cons (.ix (.var 0) (.int 1)) (.cons (.blt .len (.cons (.ix (.var 0) (.int 0)) .nil)) .nil)))))
  .nil))⟩
def F10 : Fn := ⟨"fault_in", true, false, 1, ["value", "side", "lists", "others", "person", "row", "other"],
  (.cons (.if_ (.not_ (.val (.call 9 (.cons (.var 0) .nil)))) (.cons (.ret (.tup (.cons (.glob "FORM" (.str "form")) .nil)))
  .nil) .nil)
  (.cons (.for_ (.tup (.cons (.name 1) (.cons (.name 2) (.cons (.name 3) .nil)))) (.vals (.tup (.cons (.tup (.cons (.glob "LEFT" (.str "left")) (.cons (.ix (.var 0) (.int 0)) (.cons (.ix (.var 0) (.int 1)) .nil)))) (.cons (.tup (.cons (.glob "RIGHT" (.str "right")) (.cons (.ix (.var 0) (.int 1)) (.cons (.ix (.var 0) (.int 0)) .nil)))) .nil)))) (.cons (.for_ (.tup (.cons (.name 4) (.cons (.name 5) .nil))) (.enm (.var 2)) (.cons (.for_ (.name 6) (.vals (.var 5)) (.cons (.if_ (.cmp .nin (.var 4) (.ix (.var 3) (.var 6))) (.cons (.ret (.tup (.cons (.var 1) (.cons (.var 4) (.cons (.var 6) .nil)))))
  .nil) .nil)
  .nil))
  .nil))
  .nil))
  (.cons (.ret .non)
  .nil)))⟩
def F11 : Fn := ⟨"is_wishes_in", true, false, 1, ["value"],
  (.cons (.ret (.cmp .isN (.call 10 (.cons (.var 0) .nil)) .non))
  .nil)⟩
def F12 : Fn := ⟨"require_wishes", true, false, 1, ["value"],
  (.cons (.if_ (.not_ (.val (.call 11 (.cons (.var 0) .nil)))) (.cons (.raise 1 .nil)
  .nil) .nil)
  .nil)⟩
def F13 : Fn := ⟨"__init__", false, false, 2, ["self", "wishes", "row", "rank", "left"],
  (.cons (.asg (.fld [(6, 3)] "own_lefts" (.var 0)) (.ix (.var 1) (.int 0)))
  (.cons (.asg (.fld [(6, 4), (7, 0)] "own_ranks" (.var 0)) (.lc [2] (.name 2) (.vals (.ix (.var 1) (.int 1))) .non (.dc false [3, 4] (.tup (.cons (.name 3) (.cons (.name 4) .nil))) (.enm (.var 2)) .non (.var 4) (.var 3))))
  (.cons (.asg (.fld [(6, 0)] "own_at" (.var 0)) (.bin .mul (.lst (.cons (.int 0) .nil)) (.blt .len (.cons (.ix (.var 1) (.int 0)) .nil))))
  (.cons (.asg (.tup (.cons (.fld [(6, 1)] "own_held" (.var 0)) (.cons (.fld [(6, 2)] "own_holder" (.var 0)) .nil))) (.tup (.cons .dK (.cons .dK .nil))))
  .nil))))⟩
def F14 : Fn := ⟨"can_ask", false, false, 2, ["self", "left"],
  (.cons (.ret (.and_ (.cmp .nin (.var 1) (.fld [(6, 2)] "own_holder" (.var 0))) (.cmp .lt (.ix (.fld [(6, 0)] "own_at" (.var 0)) (.var 1)) (.blt .len (.cons (.ix (.fld [(6, 3)] "own_lefts" (.var 0)) (.var 1)) .nil)))))
  .nil)⟩
def F15 : Fn := ⟨"ask", false, false, 2, ["self", "left", "right", "ranks", "before"],
  (.cons (.asg (.name 2) (.ix (.ix (.fld [(6, 3)] "own_lefts" (.var 0)) (.var 1)) (.ix (.fld [(6, 0)] "own_at" (.var 0)) (.var 1))))
  (.cons (.augS (.fld [(6, 0)] "own_at" (.var 0)) (.var 1) .add (.int 1))
  (.cons (.par 3 4 (.ix (.fld [(6, 4), (7, 0)] "own_ranks" (.var 0)) (.var 2)) (.mth .get (.fld [(6, 1)] "own_held" (.var 0)) (.cons (.var 2) .nil)))
  (.cons (.if_ (.and_ (.cmp .notN (.var 4) .non) (.cmp .lt (.ix (.var 3) (.var 4)) (.ix (.var 3) (.var 1)))) (.cons (.ret (.var 1))
  .nil) .nil)
  (.cons (.asg (.tup (.cons (.sub (.fld [(6, 1)] "own_held" (.var 0)) (.var 2)) (.cons (.sub (.fld [(6, 2)] "own_holder" (.var 0)) (.var 1)) .nil))) (.tup (.cons (.var 1) (.cons (.var 2) .nil))))
  (.cons (.if_ (.cmp .notN (.var 4) .non) (.cons (.expr (.mth .dpop (.fld [(6, 2)] "own_holder" (.var 0)) (.cons (.var 4) .nil)))
  .nil) .nil)
  (.cons (.ret (.var 4))
  .nil)))))))⟩
def F16 : Fn := ⟨"free", false, false, 1, ["self", "left"],
  (.cons (.ret (.blt .tuple (.cons (.lc [1] (.name 1) (.rng1 (.blt .len (.cons (.fld [(6, 3)] "own_lefts" (.var 0)) .nil))) (.som (.val (.mcl 6 14 "can_ask" (.var 0) (.cons (.var 1) .nil)))) (.var 1)) .nil)))
  .nil)⟩
def F17 : Fn := ⟨"held", false, false, 1, ["self"],
  (.cons (.ret (.blt .tuple (.cons (.srtI (.fld [(6, 2)] "own_holder" (.var 0))) .nil)))
  .nil)⟩
def F18 : Fn := ⟨"row", false, false, 1, ["self", "found", "waiting", "left", "refused"],
  (.cons (.par 1 2 (.lst .nil) (.rvs (.blt .list (.cons (.mcl 6 16 "free" (.var 0) .nil) .nil))))
  (.cons (.while_ (.cmp .ne (.var 2) (.lst .nil)) (.cons (.asg (.name 3) (.mth .pop (.var 2) .nil))
  (.cons (.if_ (.val (.mcl 6 14 "can_ask" (.var 0) (.cons (.var 3) .nil))) (.cons (.expr (.mth .append (.var 1) (.cons (.var 3) .nil)))
  (.cons (.asg (.name 4) (.mcl 6 15 "ask" (.var 0) (.cons (.var 3) .nil)))
  (.cons (.if_ (.cmp .notN (.var 4) .non) (.cons (.expr (.mth .append (.var 2) (.cons (.var 4) .nil)))
  .nil) .nil)
  .nil))) .nil)
  .nil)))
  (.cons (.ret (.blt .tuple (.cons (.var 1) .nil)))
  .nil)))⟩
def F19 : Fn := ⟨"left_best_in", true, false, 1, ["wishes", "asked"],
  (.cons (.asg (.name 1) (.new 6 13 (.cons (.var 0) .nil)))
  (.cons (.expr (.mcl 6 18 "row" (.var 1) .nil))
  (.cons (.ret (.mcl 6 17 "held" (.var 1) .nil))
  .nil)))⟩
def F20 : Fn := ⟨"is_group", true, false, 2, ["value", "many", "one"],
  (.cons (.if_ (.or_ (.not_ (.val (.isi (.var 0) .tuple))) (.or_ (.cmp .eq (.var 0) (.tup .nil)) (.not_ (.val (.blt .all (.cons (.lc [2] (.name 2) (.vals (.var 0)) .non (.call 1 (.cons (.var 2) (.cons (.int 0) (.cons (.bin .sub (.var 1) (.int 1)) .nil))))) .nil)))))) (.cons (.ret (.bl false))
  .nil) .nil)
  (.cons (.ret (.call 3 (.cons (.var 0) .nil)))
  .nil))⟩
def F21 : Fn := ⟨"is_list", true, false, 2, ["value", "many", "persons", "person", "group"],
  (.cons (.if_ (.or_ (.not_ (.val (.isi (.var 0) .tuple))) (.not_ (.val (.blt .all (.cons (.lc [4] (.name 4) (.vals (.var 0)) .non (.call 20 (.cons (.var 4) (.cons (.var 1) .nil)))) .nil))))) (.cons (.ret (.bl false))
  .nil) .nil)
  (.cons (.asg (.name 2) (.call 22 (.cons (.var 0) .nil)))
  (.cons (.ret (.cmp .eq (.blt .len (.cons (.dc false [3] (.name 3) (.vals (.var 2)) .non (.var 3) (.bl true)) .nil)) (.blt .len (.cons (.var 2) .nil))))
  .nil)))⟩
def F22 : Fn := ⟨"flat", true, false, 1, ["groups", "group", "person"],
  (.cons (.ret (.blt .tuple (.cons (.lc2 [1, 2] [2] (.name 1) (.vals (.var 0)) .non (.name 2) (.vals (.var 1)) .non (.var 2)) .nil)))
  .nil)⟩
def F23 : Fn := ⟨"is_side", true, false, 2, ["value", "many", "row"],
  (.cons (.ret (.and_ (.isi (.var 0) .tuple) (.blt .all (.cons (.lc [2] (.name 2) (.vals (.var 0)) .non (.call 21 (.cons (.var 2) (.cons (.var 1) .nil)))) .nil))))
  .nil)⟩
def F24 : Fn := ⟨"is_ties_in", true, false, 1, ["value", "ones", "lefts", "rights", "right", "left", "row", "side"],
  (.cons (.if_ (.or_ (.not_ (.val (.call 2 (.cons (.var 0) .nil)))) (.not_ (.val (.blt .all (.cons (.lc [7] (.name 7) (.vals (.var 0)) .non (.and_ (.isi (.var 7) .tuple) (.chn .le .le (.int 1) (.blt .len (.cons (.var 7) .nil)) (.glob "MOST_PERSONS_ties" (.int 40))))) .nil))))) (.cons (.ret (.bl false))
  .nil) .nil)
  (.cons (.asg (.tup (.cons (.name 2) (.cons (.name 3) .nil))) (.var 0))
  (.cons (.if_ (.or_ (.not_ (.val (.call 23 (.cons (.var 2) (.cons (.blt .len (.cons (.var 3) .nil)) .nil))))) (.not_ (.val (.call 23 (.cons (.var 3) (.cons (.blt .len (.cons (.var 2) .nil)) .nil)))))) (.cons (.ret (.bl false))
  .nil) .nil)
  (.cons (.asg (.name 1) (.blt .sorted (.cons (.lc2 [5, 6, 4] [4] (.tup (.cons (.name 5) (.cons (.name 6) .nil))) (.enm (.var 2)) .non (.name 4) (.vals (.call 22 (.cons (.var 6) .nil))) .non (.tup (.cons (.var 5) (.cons (.var 4) .nil)))) .nil)))
  (.cons (.ret (.cmp .eq (.var 1) (.blt .sorted (.cons (.lc2 [4, 6, 5] [5] (.tup (.cons (.name 4) (.cons (.name 6) .nil))) (.enm (.var 3)) .non (.name 5) (.vals (.call 22 (.cons (.var 6) .nil))) .non (.tup (.cons (.var 5) (.cons (.var 4) .nil)))) .nil))))
  .nil)))))⟩
def F25 : Fn := ⟨"ranks_among", true, false, 1, ["groups", "person", "rank", "group"],
  (.cons (.ret (.dc2 false [2, 3, 1] [1] (.tup (.cons (.name 2) (.cons (.name 3) .nil))) (.enm (.var 0)) .non (.name 1) (.vals (.var 3)) .non (.var 1) (.var 2)))
  .nil)⟩
def F26 : Fn := ⟨"ranks_of_ties", true, false, 1, ["ties", "row"],
  (.cons (.ret (.tup (.cons (.lc [1] (.name 1) (.vals (.ix (.var 0) (.int 0))) .non (.call 25 (.cons (.var 1) .nil))) (.cons (.lc [1] (.name 1) (.vals (.ix (.var 0) (.int 1))) .non (.call 25 (.cons (.var 1) .nil))) .nil))))
  .nil)⟩
def F27 : Fn := ⟨"is_pair_of", true, false, 2, ["ties", "value"],
  (.cons (.if_ (.or_ (.not_ (.val (.call 2 (.cons (.var 1) .nil)))) (.not_ (.val (.call 1 (.cons (.ix (.var 1) (.int 0)) (.cons (.int 0) (.cons (.bin .sub (.blt .len (.cons (.ix (.var 0) (.int 0)) .nil)) (.int 1)) .nil))))))) (.cons (.ret (.bl false))
  .nil) .nil)
  (.cons (.if_ (.not_ (.val (.call 1 (.cons (.ix (.var 1) (.int 1)) (.cons (.int 0) (.cons (.bin .sub (.blt .len (.cons (.ix (.var 0) (.int 1)) .nil)) (.int 1)) .nil)))))) (.cons (.ret (.bl false))
  .nil) .nil)
  (.cons (.ret (.cmp .in_ (.ix (.var 1) (.int 1)) (.call 22 (.cons (.ix (.ix (.var 0) (.int 0)) (.ix (.var 1) (.int 0))) .nil))))
  .nil)))⟩
def F28 : Fn := ⟨"is_pairing_of", true, false, 2, ["ties", "value", "side", "pair"],
  (.cons (.if_ (.or_ (.not_ (.val (.isi (.var 1) .tuple))) (.or_ (.not_ (.val (.blt .all (.cons (.lc [3] (.name 3) (.vals (.var 1)) .non (.call 27 (.cons (.var 0) (.cons (.var 3) .nil)))) .nil)))) (.not_ (.val (.call 3 (.cons (.var 1) .nil)))))) (.cons (.ret (.bl false))
  .nil) .nil)
  (.cons (.ret (.blt .all (.cons (.lc [2] (.name 2) (.vals (.tup (.cons (.int 0) (.cons (.int 1) .nil)))) .non (.cmp .eq (.blt .len (.cons (.dc false [3] (.name 3) (.vals (.var 1)) .non (.ix (.var 3) (.var 2)) (.bl true)) .nil)) (.blt .len (.cons (.var 1) .nil)))) .nil)))
  .nil))⟩
def F29 : Fn := ⟨"all_pairs", true, false, 1, ["ties", "right", "left", "row"],
  (.cons (.ret (.blt .tuple (.cons (.blt .sorted (.cons (.lc2 [2, 3, 1] [1] (.tup (.cons (.name 2) (.cons (.name 3) .nil))) (.enm (.ix (.var 0) (.int 0))) .non (.name 1) (.vals (.call 22 (.cons (.var 3) .nil))) .non (.tup (.cons (.var 2) (.cons (.var 1) .nil)))) .nil)) .nil)))
  .nil)⟩
def F30 : Fn := ⟨"ranks_had", true, false, 2, ["ties", "pairing", "found", "lefts", "rights", "left", "right", "row"],
  (.cons (.asg (.tup (.cons (.name 3) (.cons (.name 4) .nil))) (.call 26 (.cons (.var 0) .nil)))
  (.cons (.asg (.name 2) (.tup (.cons (.lc [7] (.name 7) (.vals (.ix (.var 0) (.int 0))) .non (.blt .len (.cons (.var 7) .nil))) (.cons (.lc [7] (.name 7) (.vals (.ix (.var 0) (.int 1))) .non (.blt .len (.cons (.var 7) .nil))) .nil))))
  (.cons (.for_ (.tup (.cons (.name 5) (.cons (.name 6) .nil))) (.vals (.var 1)) (.cons (.asg (.tup (.cons (.sub (.ix (.var 2) (.int 0)) (.var 5)) (.cons (.sub (.ix (.var 2) (.int 1)) (.var 6)) .nil))) (.tup (.cons (.ix (.ix (.var 3) (.var 5)) (.var 6)) (.cons (.ix (.ix (.var 4) (.var 6)) (.var 5)) .nil))))
  .nil))
  (.cons (.ret (.var 2))
  .nil))))⟩
def F31 : Fn := ⟨"bars_in", true, false, 3, ["ties", "pairing", "slack", "known", "lefts", "rights", "ones", "others", "left", "right", "pair"],
  (.cons (.asg (.tup (.cons (.name 4) (.cons (.name 5) .nil))) (.call 26 (.cons (.var 0) .nil)))
  (.cons (.asg (.tup (.cons (.name 6) (.cons (.name 7) .nil))) (.call 30 (.cons (.var 0) (.cons (.var 1) .nil))))
  (.cons (.asg (.name 3) (.dc true [10] (.name 10) (.vals (.var 1)) .non (.var 10) (.bl true)))
  (.cons (.for_ (.tup (.cons (.name 8) (.cons (.name 9) .nil))) (.vals (.call 29 (.cons (.var 0) .nil))) (.cons (.if_ (.and_ (.cmp .nin (.tup (.cons (.var 8) (.cons (.var 9) .nil))) (.var 3)) (.cmp .lt (.ix (.ix (.var 4) (.var 8)) (.var 9)) (.bin .add (.ix (.var 6) (.var 8)) (.var 2)))) (.cons (.if_ (.cmp .lt (.ix (.ix (.var 5) (.var 9)) (.var 8)) (.bin .add (.ix (.var 7) (.var 9)) (.var 2))) (.cons (.ret (.bl true))
  .nil) .nil)
  .nil) .nil)
  .nil))
  (.cons (.ret (.bl false))
  .nil)))))⟩
def F32 : Fn := ⟨"is_kept_by_some_in", true, false, 2, ["ties", "value"],
  (.cons (.ret (.and_ (.call 28 (.cons (.var 0) (.cons (.var 1) .nil))) (.not_ (.call 31 (.cons (.var 0) (.cons (.var 1) (.cons (.int 0) .nil)))))))
  .nil)⟩
def F33 : Fn := ⟨"is_firm_in", true, false, 2, ["ties", "value"],
  (.cons (.ret (.and_ (.call 28 (.cons (.var 0) (.cons (.var 1) .nil))) (.not_ (.call 31 (.cons (.var 0) (.cons (.var 1) (.cons (.int 1) .nil)))))))
  .nil)⟩
def F34 : Fn := ⟨"plain_in", true, false, 1, ["ties", "side", "row"],
  (.cons (.ret (.blt .tuple (.cons (.lc [1] (.name 1) (.vals (.var 0)) .non (.blt .tuple (.cons (.lc [2] (.name 2) (.vals (.var 1)) .non (.call 22 (.cons (.var 2) .nil))) .nil))) .nil)))
  .nil)⟩
def F35 : Fn := ⟨"told_first", true, false, 2, ["groups", "first", "group", "person", "one"],
  (.cons (.ret (.blt .tuple (.cons (.lc2 [2, 3] [3] (.name 2) (.vals (.var 0)) .non (.name 3) (.vals .dead) .non (.var 3)) .nil)))
  .nil)⟩
def F36 : Fn := ⟨"kept_breaking", true, false, 2, ["ties", "pairing", "have", "found", "side", "partners", "left", "right", "person", "row"],
  (.cons (.asg (.name 2) (.lst (.cons (.dc false [6, 7] (.tup (.cons (.name 6) (.cons (.name 7) .nil))) (.vals (.var 1)) .non (.var 6) (.var 7)) (.cons (.dc false [6, 7] (.tup (.cons (.name 6) (.cons (.name 7) .nil))) (.vals (.var 1)) .non (.var 7) (.var 6)) .nil))))
  (.cons (.asg (.name 3) (.lst .nil))
  (.cons (.for_ (.tup (.cons (.name 4) (.cons (.name 5) .nil))) (.zip (.var 0) (.var 2)) (.cons (.expr (.mth .append (.var 3) (.cons (.blt .tuple (.cons (.lc [8, 9] (.tup (.cons (.name 8) (.cons (.name 9) .nil))) (.enm (.var 4)) .non (.call 35 (.cons (.var 9) (.cons (.mth .get (.var 5) (.cons (.var 8) .nil)) .nil)))) .nil)) .nil)))
  .nil))
  (.cons (.ret (.blt .tuple (.cons (.var 3) .nil)))
  .nil))))⟩
def F37 : Fn := ⟨"__init__", false, false, 2, ["self", "ties"],
  (.cons (.asg (.tup (.cons (.fld [(7, 2)] "own_ties" (.var 0)) (.cons (.fld [(6, 4), (7, 0)] "own_ranks" (.var 0)) (.cons (.fld [(7, 1)] "own_struck" (.var 0)) .nil)))) (.tup (.cons (.var 1) (.cons (.call 26 (.cons (.var 1) .nil)) (.cons .dT .nil)))))
  .nil)⟩
def F38 : Fn := ⟨"top", false, false, 2, ["self", "left", "row", "rank", "group", "right"],
  (.cons (.asg (.name 2) (.ix (.ix (.fld [(7, 2)] "own_ties" (.var 0)) (.int 0)) (.var 1)))
  (.cons (.for_ (.tup (.cons (.name 3) (.cons (.name 4) .nil))) (.enm (.var 2)) (.cons (.if_ (.not_ (.val (.blt .all (.cons (.lc [5] (.name 5) (.vals (.var 4)) .non (.cmp .in_ (.tup (.cons (.var 1) (.cons (.var 5) .nil))) (.fld [(7, 1)] "own_struck" (.var 0)))) .nil)))) (.cons (.ret (.var 3))
  .nil) .nil)
  .nil))
  (.cons (.ret (.bin .sub (.blt .len (.cons (.var 2) .nil)) (.int 1)))
  .nil)))⟩
def F39 : Fn := ⟨"offers", false, false, 1, ["self", "found", "left", "row", "group", "right"],
  (.cons (.asg (.name 1) .dK)
  (.cons (.for_ (.tup (.cons (.name 2) (.cons (.name 3) .nil))) (.enm (.ix (.fld [(7, 2)] "own_ties" (.var 0)) (.int 0))) (.cons (.for_ (.name 4) (.vals (.slc (.var 3) .non (.som (.bin .add (.mcl 7 38 "top" (.var 0) (.cons (.var 2) .nil)) (.int 1))))) (.cons (.for_ (.name 5) (.vals (.var 4)) (.cons (.expr (.mth .append (.mth .setd (.var 1) (.cons (.var 5) (.cons (.lst .nil) .nil))) (.cons (.var 2) .nil)))
  .nil))
  .nil))
  .nil))
  (.cons (.ret (.var 1))
  .nil)))⟩
def F40 : Fn := ⟨"can_strike", false, false, 3, ["self", "offers", "pair", "ranks", "left", "right", "one"],
  (.cons (.asg (.tup (.cons (.name 4) (.cons (.name 5) .nil))) (.var 2))
  (.cons (.asg (.name 3) (.ix (.ix (.fld [(6, 4), (7, 0)] "own_ranks" (.var 0)) (.int 1)) (.var 5)))
  (.cons (.if_ (.cmp .in_ (.var 2) (.fld [(7, 1)] "own_struck" (.var 0))) (.cons (.ret (.bl false))
  .nil) .nil)
  (.cons (.ret (.blt .any (.cons (.lc [6] (.name 6) (.vals (.mth .get (.var 1) (.cons (.var 5) (.cons (.lst .nil) .nil)))) .non (.and_ (.cmp .ne (.var 6) (.var 4)) (.cmp .le (.ix (.var 3) (.var 6)) (.ix (.var 3) (.var 4))))) .nil)))
  .nil))))⟩
def F41 : Fn := ⟨"strike", false, false, 2, ["self", "pair"],
  (.cons (.asg (.sub (.fld [(7, 1)] "own_struck" (.var 0)) (.var 1)) (.bl true))
  .nil)⟩
def F42 : Fn := ⟨"strike_all", false, false, 1, ["self", "pairs", "more", "offers", "pair"],
  (.cons (.par 1 2 (.call 29 (.cons (.fld [(7, 2)] "own_ties" (.var 0)) .nil)) (.lst (.cons .non .nil)))
  (.cons (.while_ (.cmp .ne (.var 2) (.lst .nil)) (.cons (.asg (.name 3) (.mcl 7 39 "offers" (.var 0) .nil))
  (.cons (.asg (.name 2) (.lc [4] (.name 4) (.vals (.var 1)) (.som (.val (.mcl 7 40 "can_strike" (.var 0) (.cons (.var 3) (.cons (.var 4) .nil))))) (.var 4)))
  (.cons (.for_ (.name 4) (.vals (.var 2)) (.cons (.expr (.mcl 7 41 "strike" (.var 0) (.cons (.var 4) .nil)))
  .nil))
  .nil))))
  .nil))⟩
def F43 : Fn := ⟨"left_over", false, false, 1, ["self", "found", "left", "row", "group", "free", "right"],
  (.cons (.asg (.name 1) .dK)
  (.cons (.for_ (.tup (.cons (.name 2) (.cons (.name 3) .nil))) (.enm (.ix (.fld [(7, 2)] "own_ties" (.var 0)) (.int 0))) (.cons (.for_ (.name 4) (.vals (.var 3)) (.cons (.asg (.name 5) (.lc [6] (.name 6) (.vals (.var 4)) (.som (.cmp .nin (.tup (.cons (.var 2) (.cons (.var 6) .nil))) (.fld [(7, 1)] "own_struck" (.var 0)))) (.var 6)))
  (.cons (.if_ (.and_ (.cmp .ne (.var 5) (.lst .nil)) (.cmp .nin (.var 2) (.var 1))) (.cons (.asg (.sub (.var 1) (.var 2)) (.var 5))
  .nil) .nil)
  .nil)))
  .nil))
  (.cons (.ret (.var 1))
  .nil)))⟩
def F44 : Fn := ⟨"bars", false, false, 1, ["self"],
  (.cons (.ret (.cmp .gt (.blt .len (.cons (.mcl 7 39 "offers" (.var 0) .nil) .nil)) (.blt .len (.cons (.mcl 7 43 "left_over" (.var 0) .nil) .nil))))
  .nil)⟩
def F45 : Fn := ⟨"struck_by", true, false, 2, ["ties", "value", "strikes", "pair"],
  (.cons (.if_ (.or_ (.not_ (.val (.isi (.var 1) .tuple))) (.not_ (.val (.blt .all (.cons (.lc [3] (.name 3) (.vals (.var 1)) .non (.call 27 (.cons (.var 0) (.cons (.var 3) .nil)))) .nil))))) (.cons (.ret .non)
  .nil) .nil)
  (.cons (.asg (.name 2) (.new 7 37 (.cons (.var 0) .nil)))
  (.cons (.for_ (.name 3) (.vals (.var 1)) (.cons (.if_ (.not_ (.val (.mcl 7 40 "can_strike" (.var 2) (.cons (.mcl 7 39 "offers" (.var 2) .nil) (.cons (.var 3) .nil))))) (.cons (.ret .non)
  .nil) .nil)
  (.cons (.expr (.mcl 7 41 "strike" (.var 2) (.cons (.var 3) .nil)))
  .nil)))
  (.cons (.ret (.var 2))
  .nil))))⟩
def F46 : Fn := ⟨"is_strikes_in", true, false, 2, ["ties", "value", "strikes"],
  (.cons (.asg (.name 2) (.call 45 (.cons (.var 0) (.cons (.var 1) .nil))))
  (.cons (.ret (.and_ (.cmp .notN (.var 2) .non) (.mcl 7 44 "bars" (.var 2) .nil)))
  .nil))⟩
def F47 : Fn := ⟨"firm_answer_in", true, false, 1, ["ties", "strikes", "left", "rights"],
  (.cons (.asg (.name 1) (.new 7 37 (.cons (.var 0) .nil)))
  (.cons (.expr (.mcl 7 42 "strike_all" (.var 1) .nil))
  (.cons (.if_ (.val (.mcl 7 44 "bars" (.var 1) .nil)) (.cons (.ret (.tup (.cons (.tup (.cons (.glob "UNFIRM" (.str "unfirm")) (.cons (.call 6 (.cons (.var 0) .nil)) .nil))) (.cons (.blt .tuple (.cons (.fld [(7, 1)] "own_struck" (.var 1)) .nil)) .nil))))
  .nil) .nil)
  (.cons (.ret (.tup (.cons (.tup (.cons (.glob "FIRM" (.str "firm")) (.cons (.call 6 (.cons (.var 0) .nil)) .nil))) (.cons (.blt .tuple (.cons (.lc [2, 3] (.tup (.cons (.name 2) (.cons (.name 3) .nil))) (.vals (.srtI (.mcl 7 43 "left_over" (.var 1) .nil))) .non (.tup (.cons (.var 2) (.cons (.ix (.var 3) (.int 0)) .nil)))) .nil)) .nil))))
  .nil))))⟩
def F48 : Fn := ⟨"require_ties", true, false, 1, ["value"],
  (.cons (.if_ (.not_ (.val (.call 24 (.cons (.var 0) .nil)))) (.cons (.raise 3 .nil)
  .nil) .nil)
  .nil)⟩
def F49 : Fn := ⟨"require_row", true, false, 2, ["value", "many", "one"],
  (.cons (.if_ (.or_ (.not_ (.val (.isi (.var 0) .tuple))) (.not_ (.val (.blt .all (.cons (.lc [2] (.name 2) (.vals (.var 0)) .non (.call 1 (.cons (.var 2) (.cons (.int 0) (.cons (.bin .sub (.var 1) (.int 1)) .nil))))) .nil))))) (.cons (.raise 4 .nil)
  .nil) .nil)
  (.cons (.if_ (.cmp .ne (.blt .sorted (.cons (.var 0) .nil)) (.blt .list (.cons (.blt .rng1 (.cons (.var 1) .nil)) .nil))) (.cons (.raise 4 .nil)
  .nil) .nil)
  .nil))⟩
def F50 : Fn := ⟨"ties_of", true, false, 1, ["wishes", "side", "row", "person"],
  (.cons (.expr (.call 12 (.cons (.var 0) .nil)))
  (.cons (.ret (.blt .tuple (.cons (.lc [1] (.name 1) (.vals (.var 0)) .non (.blt .tuple (.cons (.lc [2] (.name 2) (.vals (.var 1)) .non (.blt .tuple (.cons (.lc [3] (.name 3) (.vals (.var 2)) .non (.tup (.cons (.var 3) .nil))) .nil))) .nil))) .nil)))
  .nil))⟩
def F51 : Fn := ⟨"tied_pairs", true, false, 1, ["ties"],
  (.cons (.expr (.call 48 (.cons (.var 0) .nil)))
  (.cons (.ret (.call 29 (.cons (.var 0) .nil)))
  .nil))⟩
def F52 : Fn := ⟨"count_breakings", true, false, 1, ["ties", "found", "side", "row", "group", "factor"],
  (.cons (.expr (.call 48 (.cons (.var 0) .nil)))
  (.cons (.asg (.name 1) (.int 1))
  (.cons (.for_ (.name 2) (.vals (.var 0)) (.cons (.for_ (.name 3) (.vals (.var 2)) (.cons (.for_ (.name 4) (.vals (.var 3)) (.cons (.for_ (.name 5) (.rng2 (.int 2) (.bin .add (.blt .len (.cons (.var 4) .nil)) (.int 1))) (.cons (.aug 1 .mul (.var 5))
  .nil))
  .nil))
  .nil))
  .nil))
  (.cons (.ret (.var 1))
  .nil))))⟩
def F53 : Fn := ⟨"broken_plainly", true, false, 1, ["ties"],
  (.cons (.expr (.call 48 (.cons (.var 0) .nil)))
  (.cons (.ret (.call 34 (.cons (.var 0) .nil)))
  .nil))⟩
def F54 : Fn := ⟨"broken_by", true, false, 3, ["ties", "lefts", "rights", "found", "side", "row", "groups", "group", "one"],
  (.cons (.expr (.call 48 (.cons (.var 0) .nil)))
  (.cons (.expr (.call 49 (.cons (.var 1) (.cons (.blt .len (.cons (.ix (.var 0) (.int 0)) .nil)) .nil))))
  (.cons (.expr (.call 49 (.cons (.var 2) (.cons (.blt .len (.cons (.ix (.var 0) (.int 1)) .nil)) .nil))))
  (.cons (.asg (.name 3) (.lst .nil))
  (.cons (.for_ (.tup (.cons (.name 4) (.cons (.name 5) .nil))) (.zip (.var 0) (.tup (.cons (.var 2) (.cons (.var 1) .nil)))) (.cons (.expr (.mth .append (.var 3) (.cons (.blt .tuple (.cons (.lc [6] (.name 6) (.vals (.var 4)) .non (.blt .tuple (.cons (.lc2 [7, 8] [8] (.name 7) (.vals (.var 6)) .non (.name 8) (.vals (.var 5)) (.som (.cmp .in_ (.var 8) (.var 7))) (.var 8)) .nil))) .nil)) .nil)))
  .nil))
  (.cons (.ret (.blt .tuple (.cons (.var 3) .nil)))
  .nil))))))⟩
def F55 : Fn := ⟨"is_kept_by_some", true, false, 2, ["ties", "value"],
  (.cons (.expr (.call 48 (.cons (.var 0) .nil)))
  (.cons (.ret (.call 32 (.cons (.var 0) (.cons (.var 1) .nil))))
  .nil))⟩
def F56 : Fn := ⟨"is_firm", true, false, 2, ["ties", "value"],
  (.cons (.expr (.call 48 (.cons (.var 0) .nil)))
  (.cons (.ret (.call 33 (.cons (.var 0) (.cons (.var 1) .nil))))
  .nil))⟩
def F57 : Fn := ⟨"some_pairing", true, false, 1, ["ties"],
  (.cons (.expr (.call 48 (.cons (.var 0) .nil)))
  (.cons (.ret (.call 19 (.cons (.call 34 (.cons (.var 0) .nil)) .nil)))
  .nil))⟩
def F58 : Fn := ⟨"breaking_for", true, false, 2, ["ties", "pairing"],
  (.cons (.expr (.call 48 (.cons (.var 0) .nil)))
  (.cons (.if_ (.not_ (.val (.call 28 (.cons (.var 0) (.cons (.var 1) .nil))))) (.cons (.raise 2 .nil)
  .nil) .nil)
  (.cons (.if_ (.val (.call 31 (.cons (.var 0) (.cons (.var 1) (.cons (.int 0) .nil))))) (.cons (.raise 5 (.cons (.tup (.cons (.str "broken") .nil)) .nil))
  .nil) .nil)
  (.cons (.ret (.call 36 (.cons (.var 0) (.cons (.var 1) .nil))))
  .nil))))⟩
def F59 : Fn := ⟨"firm_answer", true, false, 1, ["ties"],
  (.cons (.expr (.call 48 (.cons (.var 0) .nil)))
  (.cons (.ret (.call 47 (.cons (.var 0) .nil)))
  .nil))⟩
def F60 : Fn := ⟨"is_strikes", true, false, 2, ["ties", "value"],
  (.cons (.expr (.call 48 (.cons (.var 0) .nil)))
  (.cons (.ret (.call 46 (.cons (.var 0) (.cons (.var 1) .nil))))
  .nil))⟩
def F61 : Fn := ⟨"wanted_behind", true, false, 2, ["ties", "strikes", "struck"],
  (.cons (.expr (.call 48 (.cons (.var 0) .nil)))
  (.cons (.asg (.name 2) (.call 45 (.cons (.var 0) (.cons (.var 1) .nil))))
  (.cons (.if_ (.cmp .isN (.var 2) .non) (.cons (.raise 4 .nil)
  .nil) .nil)
  (.cons (.ret (.blt .tuple (.cons (.blt .sorted (.cons (.mcl 7 39 "offers" (.var 2) .nil) .nil)) .nil)))
  .nil))))⟩
def F62 : Fn := ⟨"best_firm", true, false, 1, ["ties", "claim", "paper"],
  (.cons (.expr (.call 48 (.cons (.var 0) .nil)))
  (.cons (.asg (.tup (.cons (.name 1) (.cons (.name 2) .nil))) (.call 47 (.cons (.var 0) .nil)))
  (.cons (.if_ (.cmp .eq (.ix (.var 1) (.int 0)) (.glob "UNFIRM" (.str "unfirm"))) (.cons (.raise 5 (.cons (.tup (.cons (.glob "UNFIRM" (.str "unfirm")) .nil)) .nil))
  .nil) .nil)
  (.cons (.ret (.var 2))
  .nil))))⟩
def F63 : Fn := ⟨"_law_dice", true, false, 2, ["script", "spot", "cell", "left"],
  (.cons (.asg (.name 2) (.ite_ (.cmp .lt (.var 1) (.blt .len (.cons (.var 0) .nil))) (.blt .int (.cons (.ix (.var 0) (.var 1)) .nil)) (.bin .add (.bin .mul (.int 101) (.var 1)) (.int 43))))
  (.cons (.asg (.name 3) (.bin .mod (.blt .max2 (.cons (.int 0) (.cons (.bin .sub (.blt .abs (.cons (.var 2) .nil)) (.bin .pow (.int 10) (.int 16))) .nil))) (.bin .mul (.bin .pow (.int 10) (.int 60)) (.bin .pow (.int 10) (.int 60)))))
  (.cons (.ret (.lst (.cons (.var 3) (.cons (.bin .add (.bin .add (.bin .add (.bin .mul (.bin .mod (.blt .abs (.cons (.var 2) .nil)) (.int 1152921504606846883)) (.int 37)) (.bin .mul (.int 883) (.var 1))) (.bin .mul (.int 29) (.blt .int (.cons (.cmp .lt (.var 2) (.int 0)) .nil)))) (.int 17)) (.cons (.int 0) .nil)))))
  .nil)))⟩
def F64 : Fn := ⟨"_law_roll", true, false, 2, ["dice", "total", "one", "two", "found"],
  (.cons (.if_ (.cmp .gt (.ix (.var 0) (.int 0)) (.int 0)) (.cons (.asg (.name 4) (.bin .mod (.blt .int (.cons (.ix (.var 0) (.int 0)) .nil)) (.var 1)))
  (.cons (.asg (.sub (.var 0) (.int 0)) (.bin .fdiv (.ix (.var 0) (.int 0)) (.var 1)))
  (.cons (.ret (.var 4))
  .nil))) .nil)
  (.cons (.asg (.sub (.var 0) (.int 2)) (.bin .add (.ix (.var 0) (.int 2)) (.int 1)))
  (.cons (.asg (.name 2) (.bin .mod (.blt .int (.cons (.bin .add (.ix (.var 0) (.int 1)) (.bin .mul (.int 49979687) (.ix (.var 0) (.int 2)))) .nil)) (.int 2305843009213693907)))
  (.cons (.asg (.name 3) (.bin .add (.bin .mul (.bin .mod (.blt .int (.cons (.bin .add (.bin .mul (.var 2) (.var 2)) (.bin .mul (.int 107) (.ix (.var 0) (.int 2)))) .nil)) (.int 2305843009213693921)) (.int 7368787)) (.var 2)))
  (.cons (.ret (.bin .mod (.blt .int (.cons (.bin .fdiv (.var 3) (.int 65536)) .nil)) (.var 1)))
  .nil)))))⟩
def F65 : Fn := ⟨"_law_pick", true, false, 2, ["dice", "items"],
  (.cons (.ret (.ix (.var 1) (.call 64 (.cons (.var 0) (.cons (.blt .len (.cons (.var 1) .nil)) .nil)))))
  .nil)⟩
def F66 : Fn := ⟨"_law_word", true, false, 1, ["call", "error"],
  (.cons .dead
  (.cons (.ret (.str "fine"))
  .nil))⟩
def F67 : Fn := ⟨"_law_words", true, true, 5, ["ties", "pairing", "lefts", "rights", "strikes", "calls", "found", "call"],
  (.cons (.asg (.name 5) (.tup (.cons (.fnv 51) (.cons (.fnv 52) (.cons (.fnv 53) (.cons (.fnv 57) (.cons (.fnv 59) (.cons (.fnv 62) .nil))))))))
  (.cons (.asg (.name 6) (.lc [7] (.name 7) (.vals (.var 5)) .non (.wrd wds "fine" (.calF 63 7 (.cons (.var 0) .nil)))))
  (.cons (.asg (.name 6) (.bin .add (.var 6) (.lc [7] (.name 7) (.vals (.tup (.cons (.fnv 55) (.cons (.fnv 56) (.cons (.fnv 60) .nil))))) .non (.wrd wds "fine" (.calF 63 7 (.cons (.var 0) (.cons (.var 1) .nil)))))))
  (.cons (.expr (.mth .append (.var 6) (.cons (.wrd wds "fine" (.callF 58 (.cons (.var 0) (.cons (.var 1) .nil)))) .nil)))
  (.cons (.expr (.mth .append (.var 6) (.cons (.wrd wds "fine" (.callF 54 (.cons (.var 0) (.cons (.var 2) (.cons (.var 3) .nil))))) .nil)))
  (.cons (.expr (.mth .append (.var 6) (.cons (.wrd wds "fine" (.callF 61 (.cons (.var 0) (.cons (.var 4) .nil)))) .nil)))
  (.cons (.ret (.var 6))
  .nil)))))))⟩
def F68 : Fn := ⟨"_law_right", true, true, 1, ["dice", "one", "even", "bad", "wrong", "odd", "strikes", "due", "told", "value"],
  (.cons (.asg (.name 1) (.tup (.cons (.tup (.cons (.tup (.cons (.tup (.cons (.int 0) .nil)) (.cons (.tup (.cons (.int 1) .nil)) .nil))) (.cons (.tup (.cons (.tup (.cons (.int 0) (.cons (.int 1) .nil))) .nil)) .nil))) (.cons (.tup (.cons (.tup (.cons (.tup (.cons (.int 0) .nil)) (.cons (.tup (.cons (.int 1) .nil)) .nil))) (.cons (.tup (.cons (.tup (.cons (.int 0) (.cons (.int 1) .nil))) .nil)) .nil))) .nil))))
  (.cons (.asg (.name 2) (.tup (.cons (.tup (.cons (.tup (.cons (.tup (.cons (.int 0) (.cons (.int 1) .nil))) .nil)) (.cons (.tup (.cons (.tup (.cons (.int 0) (.cons (.int 1) .nil))) .nil)) .nil))) (.cons (.tup (.cons (.tup (.cons (.tup (.cons (.int 0) (.cons (.int 1) .nil))) .nil)) (.cons (.tup (.cons (.tup (.cons (.int 0) (.cons (.int 1) .nil))) .nil)) .nil))) .nil))))
  (.cons (.asg (.name 3) (.lst (.cons .non (.cons (.tup .nil) (.cons (.ix (.var 1) (.int 0)) (.cons (.blt .list (.cons (.var 1) .nil)) (.cons (.tup (.cons (.tup .nil) (.cons (.tup .nil) .nil))) (.cons (.tup (.cons (.tup (.cons (.tup (.cons (.int 0) (.cons (.int 1) .nil))) .nil)) (.cons (.tup (.cons (.tup (.cons (.int 0) .nil)) .nil)) .nil))) (.cons (.tup (.cons (.tup (.cons (.tup (.cons (.tup (.cons (.int 1) (.cons (.int 0) .nil))) .nil)) .nil)) (.cons (.tup (.cons (.tup (.cons (.tup (.cons (.int 0) .nil)) .nil)) (.cons (.tup (.cons (.tup (.cons (.int 0) .nil)) .nil)) .nil))) .nil))) .nil)))))))))
  (.cons (.asg (.name 3) (.bin .add (.var 3) (.lst (.cons (.tup (.cons (.tup (.cons (.tup (.cons (.tup (.cons (.int 0) .nil)) .nil)) .nil)) (.cons (.tup (.cons (.tup .nil) .nil)) .nil))) (.cons (.tup (.cons (.tup (.cons (.tup (.cons (.tup (.cons (.int 0) .nil)) (.cons (.tup (.cons (.int 0) .nil)) .nil))) .nil)) (.cons (.tup (.cons (.tup (.cons (.tup (.cons (.int 0) .nil)) .nil)) .nil)) .nil))) (.cons (.tup (.cons (.tup (.cons (.tup (.cons (.tup .nil) .nil)) .nil)) (.cons (.tup (.cons (.tup .nil) .nil)) .nil))) .nil))))))
  (.cons (.asg (.name 3) (.bin .add (.var 3) (.lst (.cons (.tup (.cons (.tup (.cons (.tup (.cons (.tup (.cons (.bl true) .nil)) .nil)) .nil)) (.cons (.tup (.cons (.tup (.cons (.tup (.cons (.int 0) .nil)) .nil)) (.cons (.tup (.cons (.tup (.cons (.int 0) .nil)) .nil)) .nil))) .nil))) .nil))))
  (.cons (.asg (.name 3) (.call 65 (.cons (.var 0) (.cons (.bin .add (.var 3) (.lst (.cons (.int 5) (.cons (.tup (.cons (.tup (.cons (.tup (.cons (.tup (.cons (.int 0) .nil)) .nil)) .nil)) (.cons (.tup (.cons (.tup (.cons (.tup (.cons (.int 0) .nil)) .nil)) .nil)) (.cons (.int 0) .nil)))) .nil)))) .nil))))
  (.cons (.asg (.name 4) (.call 65 (.cons (.var 0) (.cons (.lst (.cons .non (.cons (.tup (.cons (.tup (.cons (.int 0) (.cons (.int 0) .nil))) (.cons (.tup (.cons (.int 1) (.cons (.int 0) .nil))) .nil))) (.cons (.tup (.cons (.tup (.cons (.int 1) (.cons (.int 1) .nil))) (.cons (.tup (.cons (.int 0) (.cons (.int 0) .nil))) .nil))) (.cons (.tup (.cons (.tup (.cons (.int 2) (.cons (.int 0) .nil))) .nil)) (.cons (.lst (.cons (.tup (.cons (.int 0) (.cons (.int 0) .nil))) .nil)) (.cons (.tup (.cons (.tup (.cons (.int 0) .nil)) .nil)) (.cons (.tup (.cons (.tup (.cons (.bl true) (.cons (.int 0) .nil))) .nil)) (.cons (.str "a") .nil))))))))) .nil))))
  (.cons (.asg (.name 5) (.call 65 (.cons (.var 0) (.cons (.lst (.cons .non (.cons (.tup .nil) (.cons (.tup (.cons (.int 0) .nil)) (.cons (.tup (.cons (.int 0) (.cons (.int 0) .nil))) (.cons (.tup (.cons (.int 0) (.cons (.int 2) .nil))) (.cons (.lst (.cons (.int 0) (.cons (.int 1) .nil))) (.cons (.tup (.cons (.int 0) (.cons (.bl true) .nil))) (.cons (.tup (.cons (.str "0") (.cons (.int 1) .nil))) (.cons (.tup (.cons (.int 0) (.cons (.int 1) (.cons (.int 2) .nil)))) (.cons (.int 0) .nil))))))))))) .nil))))
  (.cons (.asg (.name 6) (.call 65 (.cons (.var 0) (.cons (.lst (.cons .non (.cons (.tup (.cons (.tup (.cons (.int 2) (.cons (.int 0) .nil))) .nil)) (.cons (.tup (.cons (.tup (.cons (.int 0) (.cons (.int 0) .nil))) (.cons (.tup (.cons (.int 0) (.cons (.int 0) .nil))) .nil))) (.cons (.lst (.cons (.tup (.cons (.int 0) (.cons (.int 0) .nil))) .nil)) (.cons (.tup (.cons (.tup (.cons (.int 0) .nil)) .nil)) (.cons (.tup (.cons (.tup (.cons (.bl true) (.cons (.int 0) .nil))) .nil)) (.cons (.int 0) (.cons (.tup (.cons (.tup (.cons (.int 0) (.cons (.int 0) (.cons (.int 0) .nil)))) .nil)) .nil))))))))) .nil))))
  (.cons (.if_ (.cmp .ne (.callG false 67 (.cons (.var 3) (.cons (.var 4) (.cons (.var 5) (.cons (.var 5) (.cons (.var 6) .nil)))))) (.bin .mul (.lst (.cons (.str "ties") .nil)) (.int 12))) (.cons (.ret (.bl false))
  .nil) .nil)
  (.cons (.asg (.name 7) (.bin .add (.bin .mul (.lst (.cons (.str "fine") .nil)) (.int 9)) (.lst (.cons (.str "pairing") (.cons (.str "operation") (.cons (.str "operation") .nil))))))
  (.cons (.if_ (.or_ (.cmp .ne (.callG false 67 (.cons (.var 1) (.cons (.var 4) (.cons (.var 5) (.cons (.tup (.cons (.int 0) (.cons (.int 1) .nil))) (.cons (.var 6) .nil)))))) (.var 7)) (.cmp .ne (.callG false 67 (.cons (.var 1) (.cons (.var 4) (.cons (.tup (.cons (.int 1) (.cons (.int 0) .nil))) (.cons (.var 5) (.cons (.var 6) .nil)))))) (.var 7))) (.cons (.ret (.bl false))
  .nil) .nil)
  (.cons (.asg (.name 7) (.bin .add (.bin .add (.bin .add (.bin .mul (.lst (.cons (.str "fine") .nil)) (.int 5)) (.lst (.cons (.str "refused ('unfirm',)") .nil))) (.bin .mul (.lst (.cons (.str "fine") .nil)) (.int 3))) (.lst (.cons (.str "refused ('broken',)") (.cons (.str "fine") (.cons (.str "fine") .nil))))))
  (.cons (.if_ (.cmp .ne (.callG false 67 (.cons (.var 2) (.cons (.tup (.cons (.tup (.cons (.int 0) (.cons (.int 0) .nil))) .nil)) (.cons (.tup (.cons (.int 1) (.cons (.int 0) .nil))) (.cons (.tup (.cons (.int 0) (.cons (.int 1) .nil))) (.cons (.tup (.cons (.tup (.cons (.int 0) (.cons (.int 0) .nil))) .nil)) .nil)))))) (.var 7)) (.cons (.ret (.bl false))
  .nil) .nil)
  (.cons (.asg (.name 8) (.lc [9] (.name 9) (.vals (.tup (.cons .non (.cons (.var 1) (.cons (.tup (.cons (.tup (.cons (.tup (.cons (.int 0) .nil)) .nil)) (.cons (.tup (.cons (.tup .nil) .nil)) .nil))) (.cons (.tup (.cons (.tup (.cons (.tup (.cons (.int 0) .nil)) .nil)) (.cons (.tup (.cons (.tup (.cons (.int 0) .nil)) .nil)) .nil))) .nil)))))) .non (.wrd wds "fine" (.callF 50 (.cons (.var 9) .nil)))))
  (.cons (.ret (.cmp .eq (.var 8) (.bin .add (.bin .mul (.lst (.cons (.str "wishes") .nil)) (.int 3)) (.lst (.cons (.str "fine") .nil)))))
  .nil))))))))))))))))⟩
def F69 : Fn := ⟨"law", true, true, 1, ["script", "spot", "dice"],
  (.cons (.for_ (.name 1) (.rng1 (.blt .max2 (.cons (.int 1) (.cons (.blt .min2 (.cons (.int 4) (.cons (.blt .len (.cons (.var 0) .nil)) .nil))) .nil)))) (.cons (.asg (.name 2) (.call 63 (.cons (.var 0) (.cons (.var 1) .nil))))
  (.cons (.if_ (.or_ (.not_ (.val (.callG true 68 (.cons (.var 2) .nil)))) (.not_ (.val (.callG true 68 (.cons (.var 2) .nil))))) (.cons (.ret (.bl false))
  .nil) .nil)
  .nil)))
  (.cons (.ret (.bl true))
  .nil))⟩
def Tb0 : List Fn := [F0, F1, F2, F3, F4, F5, F6, F7, F8, F9, F10, F11, F12, F13, F14, F15, F16, F17, F18, F19]
def Tb1 : List Fn := [F20, F21, F22, F23, F24, F25, F26, F27, F28, F29, F30, F31, F32, F33, F34, F35, F36, F37, F38, F39]
def Tb2 : List Fn := [F40, F41, F42, F43, F44, F45, F46, F47, F48, F49, F50, F51, F52, F53, F54, F55, F56, F57, F58, F59]
def Tb3 : List Fn := [F60, F61, F62, F63, F64, F65, F66, F67, F68, F69]
def Tb : List Fn := Tb0 ++ Tb1 ++ Tb2 ++ Tb3
def St0 : List Stmt := [top 9, top 10, top 11, top 12, top 13, top 14, top 15, top 21, top 22, top 23, top 24, top 25, top 26, mth 28 1, mth 28 2, mth 28 3, mth 28 4, mth 28 5, mth 28 6, top 29]
def St1 : List Stmt := [top 34, top 35, top 36, top 37, top 38, top 39, top 40, top 41, top 42, top 43, top 44, top 45, top 46, top 47, top 48, top 49, top 50, mth 51 1, mth 51 2, mth 51 3]
def St2 : List Stmt := [mth 51 4, mth 51 5, mth 51 6, mth 51 7, mth 51 8, top 52, top 53, top 54, top 55, top 56, top 57, top 58, top 59, top 60, top 61, top 62, top 63, top 64, top 65, top 66]
def St3 : List Stmt := [top 67, top 68, top 69, top 71, top 72, top 73, top 74, top 75, top 76, top 77]
def St : List Stmt := St0 ++ St1 ++ St2 ++ St3
def gc : List (Str × Vl) := [("PAIR_SIZE", .int 2), ("MOST_PERSONS_lists", .int 40), ("LEFT", .str "left"), ("RIGHT", .str "right"), ("FORM", .str "form"), ("MOST_PERSONS_ties", .int 40), ("FIRM", .str "firm"), ("UNFIRM", .str "unfirm")]
def fb : List Str := ["len", "tuple", "list", "sorted", "sum", "abs", "max", "min", "all", "any", "int", "isinstance", "range", "enumerate", "zip", "bool", "str", "dict"]
def xn : List (Nat × Str) := [(1, "InvalidWishes"), (2, "InvalidPairing"), (3, "InvalidTies"), (4, "InvalidOperation")]
def xp : List (Nat × Str) := [(5, "Refused")]
def sn : List (Nat × List Str) := [(6, ["own_at", "own_held", "own_holder", "own_lefts", "own_ranks"]), (7, ["own_ranks", "own_struck", "own_ties"])]
def mt : List (Nat × Str × Nat) := [(6, "can_ask", 14), (6, "ask", 15), (6, "free", 16), (6, "held", 17), (6, "row", 18), (7, "top", 38), (7, "offers", 39), (7, "can_strike", 40), (7, "strike", 41), (7, "strike_all", 42), (7, "left_over", 43), (7, "bars", 44)]
def cl : List (Nat × Str × Nat) := [(6, "Asked", 13), (7, "Strikes", 37)]
def D0 : He.DefD := ⟨("is_whole", none), "is_whole", "is_whole", defArgs (top 9), defBody (top 9), defScope (top 9), [], []⟩
def D1 : He.DefD := ⟨("is_within", none), "is_within", "is_within", defArgs (top 10), defBody (top 10), defScope (top 10), [], []⟩
def D2 : He.DefD := ⟨("is_pair", none), "is_pair", "is_pair", defArgs (top 11), defBody (top 11), defScope (top 11), [], []⟩
def D3 : He.DefD := ⟨("is_ascending", none), "is_ascending", "is_ascending", defArgs (top 12), defBody (top 12), defScope (top 12), [], []⟩
def D4 : He.DefD := ⟨("key_kind", none), "key_kind", "key_kind", defArgs (top 13), defBody (top 13), defScope (top 13), [], []⟩
def D5 : He.DefD := ⟨("sorted_keys", none), "sorted_keys", "sorted_keys", defArgs (top 14), defBody (top 14), defScope (top 14), [], []⟩
def D6 : He.DefD := ⟨("copied", none), "copied", "copied", defArgs (top 15), defBody (top 15), defScope (top 15), [], []⟩
def D7 : He.DefD := ⟨("is_side_of_lists", none), "is_side_of_lists", "is_side_of_lists", defArgs (top 21), defBody (top 21), defScope (top 21), [], []⟩
def D8 : He.DefD := ⟨("is_list_of", none), "is_list_of", "is_list_of", defArgs (top 22), defBody (top 22), defScope (top 22), [], []⟩
def D9 : He.DefD := ⟨("has_form", none), "has_form", "has_form", defArgs (top 23), defBody (top 23), defScope (top 23), [], []⟩
def D10 : He.DefD := ⟨("fault_in", none), "fault_in", "fault_in", defArgs (top 24), defBody (top 24), defScope (top 24), [], []⟩
def D11 : He.DefD := ⟨("is_wishes_in", none), "is_wishes_in", "is_wishes_in", defArgs (top 25), defBody (top 25), defScope (top 25), [], []⟩
def D12 : He.DefD := ⟨("require_wishes", none), "require_wishes", "require_wishes", defArgs (top 26), defBody (top 26), defScope (top 26), [], []⟩
def D13 : He.DefD := ⟨("Asked", some "__init__"), "__init__", "Asked.__init__", defArgs (mth 28 1), defBody (mth 28 1), defScope (mth 28 1), [], []⟩
def D14 : He.DefD := ⟨("Asked", some "can_ask"), "can_ask", "Asked.can_ask", defArgs (mth 28 2), defBody (mth 28 2), defScope (mth 28 2), [], []⟩
def D15 : He.DefD := ⟨("Asked", some "ask"), "ask", "Asked.ask", defArgs (mth 28 3), defBody (mth 28 3), defScope (mth 28 3), [], []⟩
def D16 : He.DefD := ⟨("Asked", some "free"), "free", "Asked.free", defArgs (mth 28 4), defBody (mth 28 4), defScope (mth 28 4), [], []⟩
def D17 : He.DefD := ⟨("Asked", some "held"), "held", "Asked.held", defArgs (mth 28 5), defBody (mth 28 5), defScope (mth 28 5), [], []⟩
def D18 : He.DefD := ⟨("Asked", some "row"), "row", "Asked.row", defArgs (mth 28 6), defBody (mth 28 6), defScope (mth 28 6), [], []⟩
def D19 : He.DefD := ⟨("left_best_in", none), "left_best_in", "left_best_in", defArgs (top 29), defBody (top 29), defScope (top 29), [], []⟩
def D20 : He.DefD := ⟨("is_group", none), "is_group", "is_group", defArgs (top 34), defBody (top 34), defScope (top 34), [], []⟩
def D21 : He.DefD := ⟨("is_list", none), "is_list", "is_list", defArgs (top 35), defBody (top 35), defScope (top 35), [], []⟩
def D22 : He.DefD := ⟨("flat", none), "flat", "flat", defArgs (top 36), defBody (top 36), defScope (top 36), [], []⟩
def D23 : He.DefD := ⟨("is_side", none), "is_side", "is_side", defArgs (top 37), defBody (top 37), defScope (top 37), [], []⟩
def D24 : He.DefD := ⟨("is_ties_in", none), "is_ties_in", "is_ties_in", defArgs (top 38), defBody (top 38), defScope (top 38), [], []⟩
def D25 : He.DefD := ⟨("ranks_among", none), "ranks_among", "ranks_among", defArgs (top 39), defBody (top 39), defScope (top 39), [], []⟩
def D26 : He.DefD := ⟨("ranks_of_ties", none), "ranks_of_ties", "ranks_of_ties", defArgs (top 40), defBody (top 40), defScope (top 40), [], []⟩
def D27 : He.DefD := ⟨("is_pair_of", none), "is_pair_of", "is_pair_of", defArgs (top 41), defBody (top 41), defScope (top 41), [], []⟩
def D28 : He.DefD := ⟨("is_pairing_of", none), "is_pairing_of", "is_pairing_of", defArgs (top 42), defBody (top 42), defScope (top 42), [], []⟩
def D29 : He.DefD := ⟨("all_pairs", none), "all_pairs", "all_pairs", defArgs (top 43), defBody (top 43), defScope (top 43), [], []⟩
def D30 : He.DefD := ⟨("ranks_had", none), "ranks_had", "ranks_had", defArgs (top 44), defBody (top 44), defScope (top 44), [], []⟩
def D31 : He.DefD := ⟨("bars_in", none), "bars_in", "bars_in", defArgs (top 45), defBody (top 45), defScope (top 45), [], []⟩
def D32 : He.DefD := ⟨("is_kept_by_some_in", none), "is_kept_by_some_in", "is_kept_by_some_in", defArgs (top 46), defBody (top 46), defScope (top 46), [], []⟩
def D33 : He.DefD := ⟨("is_firm_in", none), "is_firm_in", "is_firm_in", defArgs (top 47), defBody (top 47), defScope (top 47), [], []⟩
def D34 : He.DefD := ⟨("plain_in", none), "plain_in", "plain_in", defArgs (top 48), defBody (top 48), defScope (top 48), [], []⟩
def D35 : He.DefD := ⟨("told_first", none), "told_first", "told_first", defArgs (top 49), defBody (top 49), defScope (top 49), [], []⟩
def D36 : He.DefD := ⟨("kept_breaking", none), "kept_breaking", "kept_breaking", defArgs (top 50), defBody (top 50), defScope (top 50), [], []⟩
def D37 : He.DefD := ⟨("Strikes", some "__init__"), "__init__", "Strikes.__init__", defArgs (mth 51 1), defBody (mth 51 1), defScope (mth 51 1), [], []⟩
def D38 : He.DefD := ⟨("Strikes", some "top"), "top", "Strikes.top", defArgs (mth 51 2), defBody (mth 51 2), defScope (mth 51 2), [], []⟩
def D39 : He.DefD := ⟨("Strikes", some "offers"), "offers", "Strikes.offers", defArgs (mth 51 3), defBody (mth 51 3), defScope (mth 51 3), [], []⟩
def D40 : He.DefD := ⟨("Strikes", some "can_strike"), "can_strike", "Strikes.can_strike", defArgs (mth 51 4), defBody (mth 51 4), defScope (mth 51 4), [], []⟩
def D41 : He.DefD := ⟨("Strikes", some "strike"), "strike", "Strikes.strike", defArgs (mth 51 5), defBody (mth 51 5), defScope (mth 51 5), [], []⟩
def D42 : He.DefD := ⟨("Strikes", some "strike_all"), "strike_all", "Strikes.strike_all", defArgs (mth 51 6), defBody (mth 51 6), defScope (mth 51 6), [], []⟩
def D43 : He.DefD := ⟨("Strikes", some "left_over"), "left_over", "Strikes.left_over", defArgs (mth 51 7), defBody (mth 51 7), defScope (mth 51 7), [], []⟩
def D44 : He.DefD := ⟨("Strikes", some "bars"), "bars", "Strikes.bars", defArgs (mth 51 8), defBody (mth 51 8), defScope (mth 51 8), [], []⟩
def D45 : He.DefD := ⟨("struck_by", none), "struck_by", "struck_by", defArgs (top 52), defBody (top 52), defScope (top 52), [], []⟩
def D46 : He.DefD := ⟨("is_strikes_in", none), "is_strikes_in", "is_strikes_in", defArgs (top 53), defBody (top 53), defScope (top 53), [], []⟩
def D47 : He.DefD := ⟨("firm_answer_in", none), "firm_answer_in", "firm_answer_in", defArgs (top 54), defBody (top 54), defScope (top 54), [], []⟩
def D48 : He.DefD := ⟨("require_ties", none), "require_ties", "require_ties", defArgs (top 55), defBody (top 55), defScope (top 55), [], []⟩
def D49 : He.DefD := ⟨("require_row", none), "require_row", "require_row", defArgs (top 56), defBody (top 56), defScope (top 56), [], []⟩
def D50 : He.DefD := ⟨("ties_of", none), "ties_of", "ties_of", defArgs (top 57), defBody (top 57), defScope (top 57), [], []⟩
def D51 : He.DefD := ⟨("tied_pairs", none), "tied_pairs", "tied_pairs", defArgs (top 58), defBody (top 58), defScope (top 58), [], []⟩
def D52 : He.DefD := ⟨("count_breakings", none), "count_breakings", "count_breakings", defArgs (top 59), defBody (top 59), defScope (top 59), [], []⟩
def D53 : He.DefD := ⟨("broken_plainly", none), "broken_plainly", "broken_plainly", defArgs (top 60), defBody (top 60), defScope (top 60), [], []⟩
def D54 : He.DefD := ⟨("broken_by", none), "broken_by", "broken_by", defArgs (top 61), defBody (top 61), defScope (top 61), [], []⟩
def D55 : He.DefD := ⟨("is_kept_by_some", none), "is_kept_by_some", "is_kept_by_some", defArgs (top 62), defBody (top 62), defScope (top 62), [], []⟩
def D56 : He.DefD := ⟨("is_firm", none), "is_firm", "is_firm", defArgs (top 63), defBody (top 63), defScope (top 63), [], []⟩
def D57 : He.DefD := ⟨("some_pairing", none), "some_pairing", "some_pairing", defArgs (top 64), defBody (top 64), defScope (top 64), [], []⟩
def D58 : He.DefD := ⟨("breaking_for", none), "breaking_for", "breaking_for", defArgs (top 65), defBody (top 65), defScope (top 65), [], []⟩
def D59 : He.DefD := ⟨("firm_answer", none), "firm_answer", "firm_answer", defArgs (top 66), defBody (top 66), defScope (top 66), [], []⟩
def D60 : He.DefD := ⟨("is_strikes", none), "is_strikes", "is_strikes", defArgs (top 67), defBody (top 67), defScope (top 67), [], []⟩
def D61 : He.DefD := ⟨("wanted_behind", none), "wanted_behind", "wanted_behind", defArgs (top 68), defBody (top 68), defScope (top 68), [], []⟩
def D62 : He.DefD := ⟨("best_firm", none), "best_firm", "best_firm", defArgs (top 69), defBody (top 69), defScope (top 69), [], []⟩
def D63 : He.DefD := ⟨("_law_dice", none), "_law_dice", "_law_dice", defArgs (top 71), defBody (top 71), defScope (top 71), [], []⟩
def D64 : He.DefD := ⟨("_law_roll", none), "_law_roll", "_law_roll", defArgs (top 72), defBody (top 72), defScope (top 72), [], []⟩
def D65 : He.DefD := ⟨("_law_pick", none), "_law_pick", "_law_pick", defArgs (top 73), defBody (top 73), defScope (top 73), [], []⟩
def D66 : He.DefD := ⟨("_law_word", none), "_law_word", "_law_word", defArgs (top 74), defBody (top 74), defScope (top 74), [], []⟩
def D67 : He.DefD := ⟨("_law_words", none), "_law_words", "_law_words", defArgs (top 75), defBody (top 75), defScope (top 75), [], []⟩
def D68 : He.DefD := ⟨("_law_right", none), "_law_right", "_law_right", defArgs (top 76), defBody (top 76), defScope (top 76), [], []⟩
def D69 : He.DefD := ⟨("law", none), "law", "law", defArgs (top 77), defBody (top 77), defScope (top 77), [], []⟩
def Db0 : List He.DefD := [D0, D1, D2, D3, D4, D5, D6, D7, D8, D9, D10, D11, D12, D13, D14, D15, D16, D17, D18, D19]
def Db1 : List He.DefD := [D20, D21, D22, D23, D24, D25, D26, D27, D28, D29, D30, D31, D32, D33, D34, D35, D36, D37, D38, D39]
def Db2 : List He.DefD := [D40, D41, D42, D43, D44, D45, D46, D47, D48, D49, D50, D51, D52, D53, D54, D55, D56, D57, D58, D59]
def Db3 : List He.DefD := [D60, D61, D62, D63, D64, D65, D66, D67, D68, D69]
def Db : List He.DefD := Db0 ++ Db1 ++ Db2 ++ Db3
def cnm : List Str := ["PairError", "InvalidWishes", "InvalidPairing", "InvalidTies", "InvalidOperation", "Refused", "Asked", "Strikes"]
def cg : Cg := { T := Tb, D := Db, cn := cnm, gc := gc, fb := fb, sn := sn, mt := mt, cl := cl, xp := xp, xn := xn, ws := wds, wcn := [(3, "InvalidTies"), (1, "InvalidWishes"), (2, "InvalidPairing"), (4, "InvalidOperation"), (5, "Refused")], wn := "_law_word", wf := "fine", wi := 66, wa := "call", we := "error", wN := ["call", "error"], tf := ["_law_words", "_law_right", "law"] }
end Tx

set_option Elab.async false
set_option linter.all false
set_option maxRecDepth 100000
set_option maxHeartbeats 0
namespace Tx
open PySem PySem.Spec PyProof.Rows L2 Ip
theorem tx : txL cg cg.T cg.D = true := by decide +kernel
theorem tw : txW cg = true := by decide +kernel
end Tx

set_option Elab.async false
set_option linter.all false
set_option maxRecDepth 100000
set_option maxHeartbeats 0
namespace Tx
open PySem PySem.Spec PyProof.Rows L2 Ip
def nm0 : List Str := ["PairError", "InvalidWishes", "InvalidPairing", "InvalidTies", "InvalidOperation", "Refused", "PAIR_SIZE", "is_whole", "is_within", "is_pair", "is_ascending", "key_kind", "sorted_keys", "copied", "MOST_PERSONS_lists", "LEFT", "RIGHT", "FORM", "is_side_of_lists", "is_list_of"]
def nm1 : List Str := ["has_form", "fault_in", "is_wishes_in", "require_wishes", "Asked", "left_best_in", "MOST_PERSONS_ties", "FIRM", "UNFIRM", "is_group", "is_list", "flat", "is_side", "is_ties_in", "ranks_among", "ranks_of_ties", "is_pair_of", "is_pairing_of", "all_pairs", "ranks_had"]
def nm2 : List Str := ["bars_in", "is_kept_by_some_in", "is_firm_in", "plain_in", "told_first", "kept_breaking", "Strikes", "struck_by", "is_strikes_in", "firm_answer_in", "require_ties", "require_row", "ties_of", "tied_pairs", "count_breakings", "broken_plainly", "broken_by", "is_kept_by_some", "is_firm", "some_pairing"]
def nm3 : List Str := ["breaking_for", "firm_answer", "is_strikes", "wanted_behind", "best_firm", "_law_dice", "_law_roll", "_law_pick", "_law_word", "_law_words", "_law_right"]
def names : List Str := nm0 ++ nm1 ++ nm2 ++ nm3
abbrev R : PySem.W.OpenRow := PySem.W.OpenLaw.row PySem.Challenge.rw_staypairs_k76_errors_of_ties
abbrev hk : PySem.W.Hook := hookI 1500 cg.D cg.tfD (exI cg R.prog.main.file)
def ob (s : PySem.W.SharedT) : AlI := obsI 1500 cg.D cg.tfD (exI cg R.prog.main.file) (HandSHeadRun.getT s)
theorem ob_eq (s : PySem.W.SharedT) : ob s = hk.obs s.abs := obsI_eq (HandSHeadRun.getT_eq s)
theorem run (w : World) : HandSHeadRun.RunEq R (PySem.W.view R.prog [77]) hk ob 6000 names w := by
  intro os
  kernel_rfl
end Tx

set_option Elab.async false
set_option linter.all false
set_option maxRecDepth 100000
set_option maxHeartbeats 4000000
namespace Tx
open PySem Ip

/-! ### evaluation, step by step -/
theorem E_bind {α β : Type} {m : M α} {f : α → M β} {h h' : AH} {a : α} {r : Rs β} (e : m h = .ok a h') (k : f a h' = r) : (M.bind m f) h = r := by
  unfold M.bind
  rw [e]
  exact k
theorem S_cons {cf : Orc} {s : Sx} {ss : Sxs} {σ σ' : Sg} {h h' : AH} {r : Rs (Fl × Sg)} (e : evS cf s σ h = .ok (.nx, σ') h') (k : evSs cf ss σ' h' = r) : evSs cf (.cons s ss) σ h = r := by
  unfold evSs
  exact E_bind e k
theorem S_asg {cf : Orc} {i : Nat} {e : Ex} {σ : Sg} {h h' : AH} {x : Vl} (q : evE cf e σ h = .ok x h') : evS cf (.asg (.name i) e) σ h = .ok (.nx, σ.set i (some x)) h' := by
  unfold evS
  exact E_bind q rfl
theorem S_expr {cf : Orc} {e : Ex} {σ : Sg} {h h' : AH} {x : Vl} (q : evE cf e σ h = .ok x h') : evS cf (.expr e) σ h = .ok (.nx, σ) h' := by
  unfold evS
  exact E_bind q rfl
theorem S_ret {cf : Orc} {e : Ex} {ss : Sxs} {σ : Sg} {h h' : AH} {x : Vl} (q : evE cf e σ h = .ok x h') : evSs cf (.cons (.ret e) ss) σ h = .ok (.rt x, σ) h' := by
  unfold evSs evS
  exact E_bind (E_bind q rfl) rfl
theorem Es_cons {cf : Orc} {e : Ex} {es : Exs} {σ : Sg} {h h' h2 : AH} {x : Vl} {xs : List Vl} (q : evE cf e σ h = .ok x h') (k : evEs cf es σ h' = .ok xs h2) : evEs cf (.cons e es) σ h = .ok (x :: xs) h2 := by
  unfold evEs
  exact E_bind q (E_bind k rfl)
theorem call_ok {n f : Nat} {T : List Fn} {F : Fn} {xs : List Vl} {h h' : AH} {v : Vl} {σ : Sg} (hF : T[f]? = some F) (hl : (xs.length == F.ar) = true) (e : evSs (callN T n) F.body (entry F.N.length xs) h = .ok (.rt v, σ) h') : callN T (n + 1) f xs h = .ok v h' := by
  unfold callN
  rw [hF]
  simp only [hl]
  show (M.bind _ _) h = _
  exact E_bind e rfl
/-! ### words -/
def wres (f : Nat) (ws : List Vl) (sub : AH) : Option Str := match callN Tb 9 f ws sub with
  | .ok v h' => if sameP sub h' && rfree v then some "fine" else none
  | .ex c p h' => if sameP sub h' && rfrees p then wordA wds c p else none
  | .no => none
def wq (f : Nat) (args : List Vl) (h : AH) : Option Str := match fetch h (refsOf args), renm (refsOf args) args with
  | some sub, some ws => wres f ws sub
  | _, _ => none
theorem wq_ok {f : Nat} {args : List Vl} {h : AH} {x : Str} (q : wq f args h = some x) : worded wds "fine" (frame (callN Tb 9 f) args) h = .ok (.str x) h := by
  unfold wq at q
  cases h1 : fetch h (refsOf args) with
  | none => rw [h1] at q; cases q
  | some sub =>
    cases h2 : renm (refsOf args) args with
    | none => rw [h1, h2] at q; cases q
    | some ws =>
      rw [h1, h2] at q
      have q : wres f ws sub = some x := q
      have fr : ∀ r, callN Tb 9 f ws sub = r → frame (callN Tb 9 f) args h = (match r with
          | .ok v h' => if sameP sub h' then back sub.length h h' v else .no
          | .ex c p h' => if sameP sub h' && rfrees p then .ex c p h else .no
          | .no => .no) := fun r e => by
        unfold frame
        rw [h1, h2, ← e] <;> try rfl
      unfold wres at q
      cases e : callN Tb 9 f ws sub with
      | no => rw [e] at q; cases q
      | ok v h' =>
        rw [e] at q
        have q : (if (sameP sub h' && rfree v) = true then some ("fine" : Str) else none) = some x := q
        have fr := fr _ e
        by_cases hc : (sameP sub h' && rfree v) = true
        · rw [if_pos hc] at q
          cases q
          rw [Bool.and_eq_true] at hc
          have fr : frame (callN Tb 9 f) args h = (if sameP sub h' = true then back sub.length h h' v else .no) := fr
          rw [if_pos hc.1] at fr
          unfold back at fr
          rw [if_pos hc.2] at fr
          unfold worded
          rw [fr]
        · rw [if_neg hc] at q
          cases q
      | ex c p h' =>
        rw [e] at q
        have q : (if (sameP sub h' && rfrees p) = true then wordA wds c p else none) = some x := q
        have fr := fr _ e
        by_cases hc : (sameP sub h' && rfrees p) = true
        · rw [if_pos hc] at q
          have fr : frame (callN Tb 9 f) args h = (if (sameP sub h' && rfrees p) = true then .ex c p h else .no) := fr
          rw [if_pos hc] at fr
          unfold worded
          rw [fr]
          show (match wordA wds c p with
            | some x => Rs.ok (Vl.str x) h
            | none => .no) = _
          rw [q]
        · rw [if_neg hc] at q
          cases q
theorem fetch_app {h t : AH} : ∀ {is : List Nat} {sub : AH}, fetch h is = some sub → fetch (h ++ t) is = some sub
  | [], sub, e => by cases e; rfl
  | i :: is, sub, e => by
    unfold fetch at e ⊢
    cases q : h[i]? with
    | none => rw [q] at e; cases e
    | some o =>
      rw [q] at e
      rw [List.getElem?_append_left (List.getElem?_eq_some_iff.mp q).1, q]
      simp only at e ⊢
      split at e
      · rename_i hf
        rw [if_pos hf]
        obtain ⟨os, e1, e2⟩ := Option.map_eq_some_iff.mp e
        rw [fetch_app e1, ← e2]; rfl
      · cases e
theorem wq_app {f : Nat} {args : List Vl} {h t : AH} {x : Str} (q : wq f args h = some x) : wq f args (h ++ t) = some x := by
  unfold wq at q ⊢
  split at q
  · rename_i sub ws h1 h2
    rw [fetch_app h1, h2]
    exact q
  · cases q
theorem fetch_hd {o o' : Ob} {t : AH} : ∀ {is : List Nat}, 0 ∉ is → fetch (o :: t) is = fetch (o' :: t) is
  | [], _ => rfl
  | i :: is, hn => by
    rw [List.mem_cons, not_or] at hn
    unfold fetch
    cases i with
    | zero => exact (hn.1 rfl).elim
    | succ i =>
      rw [List.getElem?_cons_succ, List.getElem?_cons_succ, fetch_hd hn.2]
theorem wq_hd {f : Nat} {args : List Vl} {o o' : Ob} {t : AH} (hn : 0 ∉ refsOf args) : wq f args (o :: t) = wq f args (o' :: t) := by
  unfold wq
  rw [fetch_hd hn]
/-- .. of a value that is called -/
theorem E_wcal {f i : Nat} {es : Exs} {σ : Sg} {h : AH} {vs : List Vl} {x : Str} (hσ : σ[i]? = some (some (.fn f))) (hf : Nat.blt f 63 = true) (he : evEs (callN Tb 9) es σ h = .ok vs h) (q : wq f vs h = some x) :
    evE (callN Tb 9) (.wrd wds "fine" (.calF 63 i es)) σ h = .ok (.str x) h := by
  have e : evE (callN Tb 9) (.calF 63 i es) σ h = frame (callN Tb 9 f) vs h := by
    unfold evE
    refine E_bind (a := .fn f) (h' := h) (by unfold getS; rw [hσ]; rfl) ?_
    refine E_bind (a := f) (h' := h) (by show guardB (Nat.blt f 63) (ret f) h = _; unfold guardB; rw [hf]; rfl) ?_
    exact E_bind he rfl
  have w := wq_ok q
  unfold evE
  unfold worded at w ⊢
  rw [e]
  exact w
theorem E_wcall {f : Nat} {es : Exs} {σ : Sg} {h : AH} {vs : List Vl} {x : Str} (he : evEs (callN Tb 9) es σ h = .ok vs h) (q : wq f vs h = some x) :
    evE (callN Tb 9) (.wrd wds "fine" (.callF f es)) σ h = .ok (.str x) h := by
  have e : evE (callN Tb 9) (.callF f es) σ h = frame (callN Tb 9 f) vs h := by
    unfold evE
    exact E_bind he rfl
  have w := wq_ok q
  unfold evE
  unfold worded at w ⊢
  rw [e]
  exact w
/-- a row of words -/
theorem clp_w {es : Exs} {σ : Sg} {h : AH} {vs : List Vl} (hl : 7 < σ.length) (he : ∀ f, evEs (callN Tb 9) es (σ.set 7 (some (.fn f))) h = .ok vs h) :
    ∀ (fs : List (Nat × Str)) (acc : List Vl), (∀ p ∈ fs, Nat.blt p.1 63 = true ∧ wq p.1 vs h = some p.2) →
      clp none (fun v => (evT (callN Tb 9) (.name 7) v (wipeA σ [7])).bind fun σ1 => (evF (callN Tb 9) .non σ1).bind fun k => if k = true then (evE (callN Tb 9) (.wrd wds "fine" (.calF 63 7 es)) σ1).bind fun y => ret (some y) else ret none) (fs.map fun p => .fn p.1) acc h = .ok (acc ++ fs.map fun p => .str p.2) h
  | [], acc, _ => by
    simp only [List.map_nil, List.append_nil]
    rfl
  | p :: fs, acc, hp => by
    rw [List.map_cons, clp]
    refine E_bind (a := ()) (h' := h) rfl ?_
    obtain ⟨q1, q2⟩ := hp p (.head _)
    have e1 : (wipeA σ [7]).set 7 (some (.fn p.1)) = σ.set 7 (some (.fn p.1)) := by
      show ((σ.set 7 none).set 7 _) = _
      rw [List.set_set]
    have one : ((evT (callN Tb 9) (.name 7) (.fn p.1) (wipeA σ [7])).bind fun σ1 => (evF (callN Tb 9) .non σ1).bind fun k => if k = true then (evE (callN Tb 9) (.wrd wds "fine" (.calF 63 7 es)) σ1).bind fun y => ret (some y) else ret none) h = .ok (some (.str p.2)) h := by
      refine E_bind (a := σ.set 7 (some (.fn p.1))) (h' := h) (by unfold evT; rw [e1]; rfl) ?_
      refine E_bind (a := true) (h' := h) rfl ?_
      simp only [if_true]
      refine E_bind (E_wcal (f := p.1) (by rw [List.getElem?_set_self hl]) q1 (he p.1) q2) rfl
    refine E_bind (a := some (.str p.2)) (h' := h) (by unfold noex; rw [one]) ?_
    have ih := clp_w hl he fs (acc ++ [.str p.2]) fun r hr => hp r (.tail _ hr)
    rw [List.append_assoc] at ih
    exact ih
theorem E_lcw {es : Exs} {it : Itr} {σ : Sg} {h : AH} {vs : List Vl} {fs : List (Nat × Str)} (hl : 7 < σ.length) (he : ∀ f, evEs (callN Tb 9) es (σ.set 7 (some (.fn f))) h = .ok vs h) (hi : evI (callN Tb 9) it σ h = .ok (fs.map fun p => .fn p.1, none) h) (hn : Nat.ble fs.length line = true)
    (hp : ∀ p ∈ fs, Nat.blt p.1 63 = true ∧ wq p.1 vs h = some p.2) : evE (callN Tb 9) (.lc [7] (.name 7) it .non (.wrd wds "fine" (.calF 63 7 es))) σ h = .ok (.ref h.length) (h ++ [.lst (fs.map fun p => .str p.2)]) := by
  unfold evE
  refine E_bind hi ?_
  simp only [guardB, List.length_map, hn, if_true]
  exact E_bind (clp_w hl he fs [] hp) rfl
def sts (xs : List Str) : List Vl := xs.map Vl.str
theorem words_ok {b w l r s : Vl} {h : AH} {x0 x1 x2 x3 x4 x5 x6 x7 x8 x9 x10 x11 : Str} (h0 : wq 51 [b] h = some x0) (h1 : wq 52 [b] h = some x1) (h2 : wq 53 [b] h = some x2) (h3 : wq 57 [b] h = some x3) (h4 : wq 59 [b] h = some x4) (h5 : wq 62 [b] h = some x5)
    (h6 : wq 55 [b, w] h = some x6) (h7 : wq 56 [b, w] h = some x7) (h8 : wq 60 [b, w] h = some x8) (h9 : wq 58 [b, w] h = some x9) (h10 : wq 54 [b, l, r] h = some x10) (h11 : wq 61 [b, s] h = some x11) :
    callN Tb 10 67 [b, w, l, r, s] h = .ok (.ref (h.length + 2)) (h ++ [.lst (sts [x0, x1, x2, x3, x4, x5]), .lst (sts [x6, x7, x8]), .lst (sts [x0, x1, x2, x3, x4, x5, x6, x7, x8, x9, x10, x11])]) := by
  let σ0 : Sg := [some b, some w, some l, some r, some s, none, none, none]
  let cs : Vl := .tup [.fn 51, .fn 52, .fn 53, .fn 57, .fn 59, .fn 62]
  let σ1 : Sg := [some b, some w, some l, some r, some s, some cs, none, none]
  let σ2 : Sg := [some b, some w, some l, some r, some s, some cs, some (.ref h.length), none]
  let σ3 : Sg := [some b, some w, some l, some r, some s, some cs, some (.ref (h.length + 2)), none]
  have g1 : (h ++ [Ob.lst (sts [x0, x1, x2, x3, x4, x5])]).length = h.length + 1 := by simp
  have get1 : ∀ t : AH, (h ++ .lst (sts [x0, x1, x2, x3, x4, x5]) :: t)[h.length]? = some (.lst (sts [x0, x1, x2, x3, x4, x5])) := fun t => by simp
  have get3 : ∀ (o1 o2 : Ob) (t : AH) (o : Ob), (h ++ o1 :: o2 :: o :: t)[h.length + 2]? = some o := fun o1 o2 t o => by simp
  have set3 : ∀ (o1 o2 : Ob) (o o' : Ob), (h ++ [o1, o2, o]).set (h.length + 2) o' = h ++ [o1, o2, o'] := fun o1 o2 o o' => by
    rw [List.set_append_right _ _ (by omega)]
    simp
  refine call_ok (F := F67) (σ := σ3) (by kernel_rfl) rfl ?_
  refine S_cons (σ' := σ1) (h' := h) (S_asg (i := 5) (x := cs) (by kernel_rfl)) ?_
  refine S_cons (σ' := σ2) (S_asg (i := 6) (E_lcw (vs := [b]) (fs := [(51, x0), (52, x1), (53, x2), (57, x3), (59, x4), (62, x5)]) (show 7 < 8 by decide) (fun f => by kernel_rfl) (by kernel_rfl) rfl ?_)) ?_
  · intro p hp
    simp only [List.mem_cons, List.not_mem_nil, or_false] at hp
    rcases hp with rfl | rfl | rfl | rfl | rfl | rfl
    · exact ⟨rfl, h0⟩
    · exact ⟨rfl, h1⟩
    · exact ⟨rfl, h2⟩
    · exact ⟨rfl, h3⟩
    · exact ⟨rfl, h4⟩
    · exact ⟨rfl, h5⟩
  have lc2 := E_lcw (es := .cons (.var 0) (.cons (.var 1) .nil)) (it := .vals (.tup (.cons (.fnv 55) (.cons (.fnv 56) (.cons (.fnv 60) .nil))))) (σ := σ2) (h := h ++ [.lst (sts [x0, x1, x2, x3, x4, x5])]) (vs := [b, w]) (fs := [(55, x6), (56, x7), (60, x8)]) (show 7 < 8 by decide) (fun f => by kernel_rfl) (by kernel_rfl) rfl (by
    intro p hp
    simp only [List.mem_cons, List.not_mem_nil, or_false] at hp
    rcases hp with rfl | rfl | rfl
    · exact ⟨rfl, wq_app h6⟩
    · exact ⟨rfl, wq_app h7⟩
    · exact ⟨rfl, wq_app h8⟩)
  rw [g1, List.append_assoc] at lc2
  refine S_cons (σ' := σ3) (h' := h ++ [.lst (sts [x0, x1, x2, x3, x4, x5]), .lst (sts [x6, x7, x8]), .lst (sts [x0, x1, x2, x3, x4, x5, x6, x7, x8])]) (S_asg (i := 6) (x := .ref (h.length + 2)) ?_) ?_
  · unfold evE
    refine E_bind (a := .ref h.length) (h' := h ++ [.lst (sts [x0, x1, x2, x3, x4, x5])]) (by kernel_rfl) (E_bind lc2 ?_)
    show addV (.ref h.length) (.ref (h.length + 1)) _ = _
    unfold addV
    refine E_bind (a := .lst (sts [x0, x1, x2, x3, x4, x5])) (h' := h ++ [.lst (sts [x0, x1, x2, x3, x4, x5]), .lst (sts [x6, x7, x8])]) ?_ (E_bind (a := .lst (sts [x6, x7, x8])) (h' := h ++ [.lst (sts [x0, x1, x2, x3, x4, x5]), .lst (sts [x6, x7, x8])]) ?_ ?_)
    · unfold rd
      rw [show (h ++ ([Ob.lst (sts [x0, x1, x2, x3, x4, x5])] ++ [Ob.lst ([(55, x6), (56, x7), (60, x8)].map fun p => Vl.str p.2)]))[h.length]? = some (.lst (sts [x0, x1, x2, x3, x4, x5])) from get1 _]
      rfl
    · unfold rd
      rw [show (h ++ [Ob.lst (sts [x0, x1, x2, x3, x4, x5]), Ob.lst (sts [x6, x7, x8])])[h.length + 1]? = some (.lst (sts [x6, x7, x8])) from by simp]
    · show Rs.ok (Vl.ref (h ++ [Ob.lst (sts [x0, x1, x2, x3, x4, x5]), Ob.lst (sts [x6, x7, x8])]).length) ((h ++ [Ob.lst (sts [x0, x1, x2, x3, x4, x5]), Ob.lst (sts [x6, x7, x8])]) ++ [.lst (sts [x0, x1, x2, x3, x4, x5, x6, x7, x8])]) = _
      rw [List.append_assoc]
      simp
  have app : ∀ {e : Ex} {xs : List Str} {x : Str}, evE (callN Tb 9) e σ3 (h ++ [.lst (sts [x0, x1, x2, x3, x4, x5]), .lst (sts [x6, x7, x8]), .lst (sts xs)]) = .ok (.str x) (h ++ [.lst (sts [x0, x1, x2, x3, x4, x5]), .lst (sts [x6, x7, x8]), .lst (sts xs)]) → Nat.blt xs.length line = true →
      evE (callN Tb 9) (.mth .append (.var 6) (.cons e .nil)) σ3 (h ++ [.lst (sts [x0, x1, x2, x3, x4, x5]), .lst (sts [x6, x7, x8]), .lst (sts xs)]) = .ok .non (h ++ [.lst (sts [x0, x1, x2, x3, x4, x5]), .lst (sts [x6, x7, x8]), .lst (sts (xs ++ [x]))]) := by
    intro e xs x q hn
    have gg : (h ++ [Ob.lst (sts [x0, x1, x2, x3, x4, x5]), Ob.lst (sts [x6, x7, x8]), Ob.lst (sts xs)])[h.length + 2]? = some (.lst (sts xs)) := get3 _ _ _ _
    unfold evE
    refine E_bind (a := .ref (h.length + 2)) (h' := h ++ [.lst (sts [x0, x1, x2, x3, x4, x5]), .lst (sts [x6, x7, x8]), .lst (sts xs)]) (by kernel_rfl) (E_bind (a := ()) (h' := h ++ [.lst (sts [x0, x1, x2, x3, x4, x5]), .lst (sts [x6, x7, x8]), .lst (sts xs)]) ?_ (E_bind (Es_cons q rfl) ?_))
    · show (M.bind (rd (h.length + 2)) _) _ = _
      refine E_bind (a := .lst (sts xs)) (by unfold rd; rw [gg]) rfl
    · show (M.bind (rd (h.length + 2)) _) _ = _
      refine E_bind (a := .lst (sts xs)) (by unfold rd; rw [gg]) ?_
      show guardB (Nat.blt (sts xs).length line) ((wr (h.length + 2) (.lst (sts xs ++ [Vl.str x]))).bind fun _ => Ip.ret Vl.non) _ = _
      have hl : (sts xs).length = xs.length := by simp [sts]
      unfold guardB
      rw [hl, hn]
      show Rs.ok Vl.non ((h ++ [Ob.lst (sts [x0, x1, x2, x3, x4, x5]), Ob.lst (sts [x6, x7, x8]), Ob.lst (sts xs)]).set (h.length + 2) _) = _
      rw [set3]
      simp [sts]
  refine S_cons (S_expr (app (x := x9) (E_wcall (vs := [b, w]) (by kernel_rfl) (wq_app h9)) rfl)) ?_
  refine S_cons (S_expr (app (x := x10) (E_wcall (vs := [b, l, r]) (by kernel_rfl) (wq_app h10)) rfl)) ?_
  refine S_cons (S_expr (app (x := x11) (E_wcall (vs := [b, s]) (by kernel_rfl) (wq_app h11)) rfl)) ?_
  exact S_ret (by kernel_rfl)
end Tx

set_option Elab.async false
set_option linter.all false
set_option maxRecDepth 100000
set_option maxHeartbeats 4000000
namespace Tx
open PySem Ip

/-! ### dice -/
def dOb (a b c : Int) : Ob := .lst [.int a, .int b, .int c]
theorem small64 {i : Int} (h : i.natAbs < 2 ^ 64) : small 4000 i = true := by
  unfold small
  exact Nat.ble_eq_true_of_le (Nat.lt_of_lt_of_le h (Nat.pow_le_pow_right (by decide) (by decide)))
section
variable {cf : Orc} {σ : Sg} {h : AH}
theorem E_var {i : Nat} {v : Vl} (e : σ[i]? = some (some v)) : evE cf (.var i) σ h = .ok v h := by
  unfold evE getS
  rw [e]; rfl
theorem E_bin {op : Bop} {a b : Ex} {x y z : Vl} {h1 h2 h3 : AH} (p : evE cf a σ h = .ok x h1) (q : evE cf b σ h1 = .ok y h2) (r : bop op x y h2 = .ok z h3) : evE cf (.bin op a b) σ h = .ok z h3 := by
  unfold evE
  exact E_bind p (E_bind q r)
theorem E_blt1 {b : Blt} {a : Ex} {x z : Vl} {h1 h2 : AH} (p : evE cf a σ h = .ok x h1) (r : blt b [x] h1 = .ok z h2) : evE cf (.blt b (.cons a .nil)) σ h = .ok z h2 := by
  unfold evE
  exact E_bind (Es_cons p rfl) r
theorem E_blt2 {b : Blt} {a a' : Ex} {x y z : Vl} {h1 h2 h3 : AH} (p : evE cf a σ h = .ok x h1) (q : evE cf a' σ h1 = .ok y h2) (r : blt b [x, y] h2 = .ok z h3) : evE cf (.blt b (.cons a (.cons a' .nil))) σ h = .ok z h3 := by
  unfold evE
  exact E_bind (Es_cons p (Es_cons q rfl)) r
theorem E_ix {a i : Ex} {x y z : Vl} {h1 h2 h3 : AH} (p : evE cf a σ h = .ok x h1) (q : evE cf i σ h1 = .ok y h2) (r : ixV x y h2 = .ok z h3) : evE cf (.ix a i) σ h = .ok z h3 := by
  unfold evE
  exact E_bind p (E_bind q r)
theorem E_call {f : Nat} {es : Exs} {xs : List Vl} {z : Vl} {h1 h2 : AH} (p : evEs cf es σ h = .ok xs h1) (r : cf f xs h1 = .ok z h2) : evE cf (.call f es) σ h = .ok z h2 := by
  unfold evE
  exact E_bind p r
theorem S_sub {o i e : Ex} {x y v : Vl} {h1 h2 h3 h4 : AH} (p : evE cf e σ h = .ok v h1) (q : evE cf o σ h1 = .ok x h2) (r : evE cf i σ h2 = .ok y h3) (s : setV x y v h3 = .ok () h4) : evS cf (.asg (.sub o i) e) σ h = .ok (.nx, σ) h4 := by
  unfold evS
  refine E_bind p ?_
  refine E_bind (a := σ) (h' := h4) ?_ rfl
  unfold evT
  exact E_bind q (E_bind r (E_bind s rfl))
theorem S_if {c : Te} {a b : Sxs} {k : Bool} {h1 h2 : AH} {p : Fl × Sg} (q : evB cf c σ h = .ok k h1) (r : (if k = true then evSs cf a σ h1 else evSs cf b σ h1) = .ok p h2) : evS cf (.if_ c a b) σ h = .ok p h2 := by
  unfold evS
  refine E_bind q ?_
  cases k <;> exact r
theorem B_cmp {op : Cop} {a b : Ex} {x y : Vl} {k : Bool} {h1 h2 h3 : AH} (p : evE cf a σ h = .ok x h1) (q : evE cf b σ h1 = .ok y h2) (r : cop op x y h2 = .ok (.bl k) h3) : evB cf (.cmp op a b) σ h = .ok k h3 := by
  unfold evB
  exact E_bind p (E_bind q (E_bind r rfl))
theorem bop_i {op : Bop} {f : Int → Int → Bool} {g : Int → Int → Int} {i j : Int} (e : bop op = intV f g) (hc : f i j = true) : bop op (.int i) (.int j) h = .ok (.int (g i j)) h := by
  rw [e]
  show guardB (f i j) (Ip.ret (Vl.int (g i j))) h = _
  unfold guardB
  rw [hc]; rfl
theorem bop_mul {i j : Int} (h1 : i.natAbs < 2 ^ 64) (h2 : j.natAbs < 2 ^ 64) : bop .mul (.int i) (.int j) h = .ok (.int (i * j)) h := by
  show guardB (small 4000 i && small 4000 j) (Ip.ret (Vl.int (i * j))) h = _
  unfold guardB
  rw [small64 h1, small64 h2]; rfl
theorem bop_add {i j : Int} : bop .add (.int i) (.int j) h = .ok (.int (i + j)) h := rfl
theorem bop_sub {i j : Int} : bop .sub (.int i) (.int j) h = .ok (.int (i - j)) h := rfl
theorem bop_mod {i j : Int} (hj : 0 < j) : bop .mod (.int i) (.int j) h = .ok (.int (i % j)) h := bop_i rfl (decide_eq_true hj)
theorem bop_fdiv {i j : Int} (hj : 0 < j) (h2 : j.natAbs < 2 ^ 64) : bop .fdiv (.int i) (.int j) h = .ok (.int (i / j)) h := bop_i rfl (by rw [decide_eq_true hj, small64 h2]; rfl)
theorem ix_l {t j : Nat} {xs : List Vl} {x : Vl} (hd : h[t]? = some (.lst xs)) (hx : xs[j]? = some x) : ixV (.ref t) (.int j) h = .ok x h := by
  unfold ixV
  refine E_bind (a := .lst xs) (h' := h) (by unfold rd; rw [hd]) ?_
  show optM (L2.atI xs (j : Int)) h = _
  rw [L2.atI_nat hx]; rfl
theorem set_l {t j : Nat} {xs : List Vl} {v : Vl} (hd : h[t]? = some (.lst xs)) (hj : j < xs.length) : setV (.ref t) (.int j) v h = .ok () (h.set t (.lst (xs.set j v))) := by
  unfold setV
  refine E_bind (a := .lst xs) (h' := h) (by unfold rd; rw [hd]) ?_
  have e : L2.ixN xs.length (j : Int) = some j := by
    unfold L2.ixN
    rw [if_pos (by omega), if_pos (by omega)]; simp
  show (match L2.ixN xs.length (j : Int) with
    | some j => wr t (.lst (xs.set j v))
    | none => stuck) h = _
  rw [e]; rfl
end
theorem roll_ok {n t k : Nat} {a b c : Int} {h : AH} (hk : 1 ≤ k) (hk2 : k ≤ 1000) (hd : h[t]? = some (dOb a b c)) (hc : 0 ≤ c) (hc2 : c ≤ 1000) :
    ∃ (r : Nat) (a' c' : Int), r < k ∧ callN Tb (n + 1) 64 [.ref t, .int k] h = .ok (.int r) (h.set t (dOb a' b c')) ∧ 0 ≤ c' ∧ c' ≤ c + 1 := by
  have hF : Tb[64]? = some F64 := by kernel_rfl
  have ht : t < h.length := (List.getElem?_eq_some_iff.mp hd).1
  have hk0 : (0 : Int) < k := by omega
  let σ0 : Sg := [some (.ref t), some (.int k), none, none, none]
  have ix : ∀ {cf : Orc} {σ : Sg} {h : AH} {a b c : Int} (j : Nat) (x : Int), σ[0]? = some (some (.ref t)) → h[t]? = some (dOb a b c) → [Vl.int a, .int b, .int c][j]? = some (.int x) → evE cf (.ix (.var 0) (.int (j : Int))) σ h = .ok (.int x) h :=
    fun j x hσ hd hx => E_ix (E_var hσ) rfl (ix_l hd hx)
  by_cases ha : 0 < a
  · have hr : 0 ≤ a % (k : Int) := Int.emod_nonneg _ (by omega)
    have hr2 : a % (k : Int) < k := Int.emod_lt_of_pos _ hk0
    refine ⟨(a % (k : Int)).toNat, a / (k : Int), c, by omega, ?_, hc, by omega⟩
    let σ1 : Sg := [some (.ref t), some (.int k), none, none, some (.int (a % (k : Int)))]
    have ert : ((a % (k : Int)).toNat : Int) = a % (k : Int) := Int.toNat_of_nonneg hr
    rw [ert]
    refine call_ok (F := F64) (σ := σ1) hF rfl ?_
    have hif : evS (callN Tb n) (.if_ (.cmp .gt (.ix (.var 0) (.int 0)) (.int 0)) (.cons (.asg (.name 4) (.bin .mod (.blt .int (.cons (.ix (.var 0) (.int 0)) .nil)) (.var 1))) (.cons (.asg (.sub (.var 0) (.int 0)) (.bin .fdiv (.ix (.var 0) (.int 0)) (.var 1))) (.cons (.ret (.var 4)) .nil))) .nil) σ0 h = .ok (.rt (.int (a % (k : Int))), σ1) (h.set t (dOb (a / (k : Int)) b c)) := by
      refine S_if (k := true) (h1 := h) (B_cmp (ix 0 a rfl hd rfl) rfl ?_) ?_
      · show Rs.ok (Vl.bl (decide (0 < a))) h = _
        rw [decide_eq_true ha]
      · simp only [if_true]
        refine S_cons (σ' := σ1) (h' := h) (S_asg (i := 4) (x := .int (a % (k : Int))) (E_bin (E_blt1 (ix 0 a rfl hd rfl) rfl) (E_var rfl) (bop_mod hk0))) ?_
        refine S_cons (σ' := σ1) (S_sub (E_bin (ix 0 a rfl hd rfl) (E_var rfl) (bop_fdiv hk0 (by omega))) (E_var rfl) rfl (set_l (j := 0) hd (show 0 < 3 by decide))) ?_
        exact S_ret (E_var rfl)
    show evSs (callN Tb n) F64.body σ0 h = _
    unfold F64
    simp only
    unfold evSs
    exact E_bind hif rfl
  · have hst : h.set t (dOb a b (c + 1)) = (h.set t (dOb a b (c + 1))) := rfl
    have hd1 : (h.set t (dOb a b (c + 1)))[t]? = some (dOb a b (c + 1)) := List.getElem?_set_self ht
    let one : Int := (b + 49979687 * (c + 1)) % 2305843009213693907
    have o1 : 0 ≤ one := Int.emod_nonneg _ (by decide)
    have o2 : one < 2305843009213693907 := Int.emod_lt_of_pos _ (by decide)
    let m : Int := (one * one + 107 * (c + 1)) % 2305843009213693921
    have m1 : 0 ≤ m := Int.emod_nonneg _ (by decide)
    have m2 : m < 2305843009213693921 := Int.emod_lt_of_pos _ (by decide)
    let two : Int := m * 7368787 + one
    let σ1 : Sg := [some (.ref t), some (.int k), some (.int one), none, none]
    let σ2 : Sg := [some (.ref t), some (.int k), some (.int one), some (.int two), none]
    have hr : 0 ≤ (two / 65536) % (k : Int) := Int.emod_nonneg _ (by omega)
    have hr2 : (two / 65536) % (k : Int) < k := Int.emod_lt_of_pos _ hk0
    refine ⟨((two / 65536) % (k : Int)).toNat, a, c + 1, by omega, ?_, by omega, by omega⟩
    rw [Int.toNat_of_nonneg hr]
    refine call_ok (F := F64) (σ := σ2) hF rfl ?_
    show evSs (callN Tb n) F64.body σ0 h = _
    unfold F64
    simp only
    refine S_cons (σ' := σ0) (h' := h) (S_if (k := false) (h1 := h) (B_cmp (ix 0 a rfl hd rfl) rfl ?_) rfl) ?_
    · show Rs.ok (Vl.bl (decide (0 < a))) h = _
      rw [decide_eq_false ha]
    refine S_cons (σ' := σ0) (h' := h.set t (dOb a b (c + 1))) (S_sub (E_bin (ix 2 c rfl hd rfl) rfl bop_add) (E_var rfl) rfl (set_l (j := 2) hd (show 2 < 3 by decide))) ?_
    refine S_cons (σ' := σ1) (S_asg (i := 2) (x := .int one) (E_bin (E_blt1 (E_bin (ix 1 b rfl hd1 rfl) (E_bin rfl (ix 2 (c + 1) rfl hd1 rfl) (bop_mul (by decide) (by omega))) bop_add) rfl) rfl (bop_mod (by decide)))) ?_
    refine S_cons (σ' := σ2) (S_asg (i := 3) (x := .int two) (E_bin (E_bin (E_bin (E_blt1 (E_bin (E_bin (E_var rfl) (E_var rfl) (bop_mul (by omega) (by omega))) (E_bin rfl (ix 2 (c + 1) rfl hd1 rfl) (bop_mul (by decide) (by omega))) bop_add) rfl) rfl (bop_mod (by decide))) rfl (bop_mul (by omega) (by decide))) (E_var rfl) bop_add)) ?_
    exact S_ret (E_bin (E_blt1 (E_bin (E_var rfl) rfl (bop_fdiv (by decide) (by decide))) rfl) (E_var rfl) (bop_mod hk0))
theorem pick_ok {n t k : Nat} {a b c : Int} {xs : List Vl} {h : AH} (hx : 1 ≤ xs.length) (hx2 : xs.length ≤ 1000) (hd : h[t]? = some (dOb a b c)) (hl : h[k]? = some (.lst xs)) (hne : k ≠ t) (hc : 0 ≤ c) (hc2 : c ≤ 1000) :
    ∃ (v : Vl) (a' c' : Int), v ∈ xs ∧ callN Tb (n + 2) 65 [.ref t, .ref k] h = .ok v (h.set t (dOb a' b c')) ∧ 0 ≤ c' ∧ c' ≤ c + 1 := by
  obtain ⟨r, a', c', hr, e, h1, h2⟩ := roll_ok (n := n) hx hx2 hd hc hc2
  have hg : xs[r]? = some xs[r] := List.getElem?_eq_getElem hr
  refine ⟨xs[r], a', c', List.getElem_mem hr, ?_, h1, h2⟩
  have hF : Tb[65]? = some F65 := by kernel_rfl
  refine call_ok (n := n + 1) (F := F65) (σ := [some (.ref t), some (.ref k)]) hF rfl ?_
  show evSs (callN Tb (n + 1)) (.cons (.ret (.ix (.var 1) (.call 64 (.cons (.var 0) (.cons (.blt .len (.cons (.var 1) .nil)) .nil))))) .nil) [some (.ref t), some (.ref k)] h = _
  refine S_ret (E_ix (E_var rfl) (E_call (Es_cons (E_var rfl) (Es_cons (E_blt1 (z := .int xs.length) (E_var rfl) ?_) rfl)) e) (ix_l (xs := xs) ?_ hg))
  · show (M.bind (mems (.ref k)) _) h = _
    refine E_bind (a := xs) (h' := h) ?_ rfl
    show (M.bind (rd k) _) h = _
    exact E_bind (a := .lst xs) (h' := h) (by unfold rd; rw [hl]) rfl
  · rw [List.getElem?_set_ne (Ne.symm hne)]
    exact hl
end Tx

set_option Elab.async false
set_option linter.all false
set_option maxRecDepth 100000
set_option maxHeartbeats 4000000
namespace Tx
open PySem Ip

/-! ### the law's turn, part by part -/
def tkS : Nat → Sxs → Sxs
  | 0, _ => .nil
  | n + 1, ss => match ss with
    | .cons s ss => .cons s (tkS n ss)
    | .nil => .nil
def dpS : Nat → Sxs → Sxs
  | 0, ss => ss
  | n + 1, ss => match ss with
    | .cons s ss => dpS n ss
    | .nil => .nil
theorem split_ok {cf : Orc} {σ' : Sg} {h' : AH} {r : Rs (Fl × Sg)} : ∀ {k : Nat} {ss : Sxs} {σ : Sg} {h : AH}, evSs cf (tkS k ss) σ h = .ok (.nx, σ') h' → evSs cf (dpS k ss) σ' h' = r → evSs cf ss σ h = r
  | 0, ss, σ, h, e, k => by
    unfold tkS evSs at e
    cases e
    exact k
  | n + 1, .nil, σ, h, e, k => by
    unfold tkS evSs at e
    cases e
    exact k
  | n + 1, .cons s ss, σ, h, e, k => by
    unfold tkS evSs at e
    unfold evSs
    unfold M.bind at e ⊢
    cases q : evS cf s σ h with
    | ok p h1 =>
      rw [q] at e
      simp only at e ⊢
      obtain ⟨f, σ1⟩ := p
      cases f with
      | nx => exact split_ok e k
      | rt v => cases e
      | bk => cases e
      | ct => cases e
    | ex c p h1 => rw [q] at e; cases e
    | no => rw [q] at e; cases e
def nthS : Nat → Sxs → Sx
  | 0, .cons s _ => s
  | n + 1, .cons _ ss => nthS n ss
  | _, .nil => .dead
def argOf : Sx → Ex
  | .asg _ (.call _ (.cons _ (.cons e .nil))) => e
  | _ => .dead
abbrev cfR : Orc := callN Tb 10
def outS (r : Rs (Fl × Sg)) : Sg := match r with
  | .ok p _ => p.2
  | _ => []
def outT {α : Type} (r : Rs α) : AH := match r with
  | .ok _ h => h.tail
  | _ => []
def outK (r : Rs Vl) : Nat := match r with
  | .ok (.ref k) _ => k
  | _ => 0
def lstAt (h : AH) (k : Nat) : List Vl := match h[k]? with
  | some (.lst xs) => xs
  | _ => []
def r5 : Rs (Fl × Sg) := evSs cfR (tkS 5 F68.body) (entry 10 [.ref 0]) [dOb 0 0 0]
def σ5 : Sg := outS r5
def t5 : AH := outT r5
theorem st5 (a b c : Int) : evSs cfR (tkS 5 F68.body) (entry 10 [.ref 0]) [dOb a b c] = .ok (.nx, σ5) (dOb a b c :: t5) := by kernel_rfl
def oneV : Vl := .tup [.tup [.tup [.tup [.int 0], .tup [.int 1]], .tup [.tup [.int 0, .int 1]]], .tup [.tup [.tup [.int 0], .tup [.int 1]], .tup [.tup [.int 0, .int 1]]]]
def evenV : Vl := .tup [.tup [.tup [.tup [.int 0, .int 1]], .tup [.tup [.int 0, .int 1]]], .tup [.tup [.tup [.int 0, .int 1]], .tup [.tup [.int 0, .int 1]]]]
def k5 : Nat := match (σ5[3]? : Option (Option Vl)) with
  | some (some (.ref k)) => k
  | _ => 0
theorem σ5_eq : σ5 = [some (.ref 0), some oneV, some evenV, some (.ref k5), none, none, none, none, none, none] := by kernel_rfl
abbrev sg (x3 x4 x5 x6 x7 : Option Vl) : Sg := [some (.ref 0), some oneV, some evenV, x3, x4, x5, x6, x7, none, none]
-- the first pick
def e6 : Ex := argOf (nthS 5 F68.body)
def q6 : Rs Vl := evE cfR e6 (sg (some (.ref k5)) none none none none) (dOb 0 0 0 :: t5)
def k6 : Nat := outK q6
def t6 : AH := outT q6
def B6 : List Vl := lstAt (dOb 0 0 0 :: t6) k6
theorem ev6 (a b c : Int) : evE cfR e6 (sg (some (.ref k5)) none none none none) (dOb a b c :: t5) = .ok (.ref k6) (dOb a b c :: t6) := by kernel_rfl
theorem it6 (a b c : Int) : (dOb a b c :: t6)[k6]? = some (.lst B6) := by kernel_rfl
def e7 : Ex := argOf (nthS 6 F68.body)
def q7 : Rs Vl := evE cfR e7 (sg (some .non) none none none none) (dOb 0 0 0 :: t6)
def k7 : Nat := outK q7
def t7 : AH := outT q7
def B7 : List Vl := lstAt (dOb 0 0 0 :: t7) k7
theorem ev7 (x : Vl) (a b c : Int) : evE cfR e7 (sg (some x) none none none none) (dOb a b c :: t6) = .ok (.ref k7) (dOb a b c :: t7) := by kernel_rfl
theorem it7 (a b c : Int) : (dOb a b c :: t7)[k7]? = some (.lst B7) := by kernel_rfl
def e8 : Ex := argOf (nthS 7 F68.body)
def q8 : Rs Vl := evE cfR e8 (sg (some .non) (some .non) none none none) (dOb 0 0 0 :: t7)
def k8 : Nat := outK q8
def t8 : AH := outT q8
def B8 : List Vl := lstAt (dOb 0 0 0 :: t8) k8
theorem ev8 (x y : Vl) (a b c : Int) : evE cfR e8 (sg (some x) (some y) none none none) (dOb a b c :: t7) = .ok (.ref k8) (dOb a b c :: t8) := by kernel_rfl
theorem it8 (a b c : Int) : (dOb a b c :: t8)[k8]? = some (.lst B8) := by kernel_rfl
def e9 : Ex := argOf (nthS 8 F68.body)
def q9 : Rs Vl := evE cfR e9 (sg (some .non) (some .non) (some .non) none none) (dOb 0 0 0 :: t8)
def k9 : Nat := outK q9
def t9 : AH := outT q9
def B9 : List Vl := lstAt (dOb 0 0 0 :: t9) k9
theorem ev9 (x y z : Vl) (a b c : Int) : evE cfR e9 (sg (some x) (some y) (some z) none none) (dOb a b c :: t8) = .ok (.ref k9) (dOb a b c :: t9) := by kernel_rfl
theorem it9 (a b c : Int) : (dOb a b c :: t9)[k9]? = some (.lst B9) := by kernel_rfl
theorem lens : (decide (1 ≤ B6.length) && decide (B6.length ≤ 1000) && decide (1 ≤ B7.length) && decide (B7.length ≤ 1000) && decide (1 ≤ B8.length) && decide (B8.length ≤ 1000) && decide (1 ≤ B9.length) && decide (B9.length ≤ 1000) && Nat.blt 0 k6 && Nat.blt 0 k7 && Nat.blt 0 k8 && Nat.blt 0 k9) = true := by decide +kernel
theorem asg_pick {i k : Nat} {e : Ex} {σ : Sg} {a b c : Int} {t t' : AH} {xs : List Vl} (h0 : σ[0]? = some (some (.ref 0))) (he : evE cfR e σ (dOb a b c :: t) = .ok (.ref k) (dOb a b c :: t')) (hi : (dOb a b c :: t')[k]? = some (.lst xs)) (hx : 1 ≤ xs.length) (hx2 : xs.length ≤ 1000) (hk : 0 < k) (hc : 0 ≤ c) (hc2 : c ≤ 1000) :
    ∃ (v : Vl) (a' c' : Int), v ∈ xs ∧ evS cfR (.asg (.name i) (.call 65 (.cons (.var 0) (.cons e .nil)))) σ (dOb a b c :: t) = .ok (.nx, σ.set i (some v)) (dOb a' b c' :: t') ∧ 0 ≤ c' ∧ c' ≤ c + 1 := by
  obtain ⟨v, a', c', hv, q, h1, h2⟩ := pick_ok (n := 8) (t := 0) (k := k) (h := dOb a b c :: t') hx hx2 rfl hi (by omega) hc hc2
  exact ⟨v, a', c', hv, S_asg (E_call (Es_cons (E_var h0) (Es_cons he rfl)) q), h1, h2⟩
/-! tables -/
def ck (f : Nat) (args : List Vl) (x : Str) : Bool := decide (0 ∉ refsOf args) && decide (wq f args (.lst [] :: t9) = some x)
theorem ck_ok {f : Nat} {args : List Vl} {x : Str} (h : ck f args x = true) {a b c : Int} (t : AH) : wq f args ((dOb a b c :: t9) ++ t) = some x := by
  obtain ⟨h1, h2⟩ := Bool.and_eq_true_iff.mp h
  exact wq_app ((wq_hd (of_decide_eq_true h1)).trans (of_decide_eq_true h2))
theorem tb1 : (B6.all fun x => ck 51 [x] "ties" && ck 52 [x] "ties" && ck 53 [x] "ties" && ck 57 [x] "ties" && ck 59 [x] "ties" && ck 62 [x] "ties") = true := by decide +kernel
theorem tb2 : (B6.all fun x => B7.all fun y => ck 55 [x, y] "ties" && ck 56 [x, y] "ties" && ck 60 [x, y] "ties" && ck 58 [x, y] "ties") = true := by decide +kernel
theorem tb3 : (B6.all fun x => B8.all fun z => ck 54 [x, z, z] "ties") = true := by decide +kernel
theorem tb4 : (B6.all fun x => B9.all fun u => ck 61 [x, u] "ties") = true := by decide +kernel
theorem tb5 : (ck 51 [oneV] "fine" && ck 52 [oneV] "fine" && ck 53 [oneV] "fine" && ck 57 [oneV] "fine" && ck 59 [oneV] "fine" && ck 62 [oneV] "fine") = true := by decide +kernel
theorem tb6 : (B7.all fun y => ck 55 [oneV, y] "fine" && ck 56 [oneV, y] "fine" && ck 60 [oneV, y] "fine" && ck 58 [oneV, y] "pairing") = true := by decide +kernel
theorem tb7 : (B8.all fun z => ck 54 [oneV, z, .tup [.int 0, .int 1]] "operation" && ck 54 [oneV, .tup [.int 1, .int 0], z] "operation") = true := by decide +kernel
theorem tb8 : (B9.all fun u => ck 61 [oneV, u] "operation") = true := by decide +kernel
end Tx

set_option Elab.async false
set_option linter.all false
set_option maxRecDepth 100000
set_option maxHeartbeats 4000000
namespace Tx
open PySem Ip

section
variable {cf : Orc} {σ : Sg} {h : AH}
theorem E_callG {f : Nat} {es : Exs} {xs : List Vl} {z : Vl} {h1 h2 : AH} (p : evEs cf es σ h = .ok xs h1) (r : cf f xs h1 = .ok z h2) : evE cf (.callG false f es) σ h = .ok z h2 := by
  unfold evE
  exact E_bind p r
theorem B_or {a b : Te} {k : Bool} {h1 h2 : AH} (p : evB cf a σ h = .ok false h1) (q : evB cf b σ h1 = .ok k h2) : evB cf (.or_ a b) σ h = .ok k h2 := by
  unfold evB
  exact E_bind p q
end
/-! what is compared with -/
def w3 (xs : List Str) : AH := [.lst (sts (xs.take 6)), .lst (sts ((xs.drop 6).take 3)), .lst (sts xs)]
def tiesW : List Str := List.replicate 12 "ties"
def dueW : List Str := List.replicate 9 ("fine" : Str) ++ ([("pairing" : Str), ("operation" : Str), ("operation" : Str)] : List Str)
def rhs10 : Ex := .bin .mul (.lst (.cons (.str "ties") .nil)) (.int 12)
def q10 : Rs Vl := evE cfR rhs10 (sg none none none none none) (dOb 0 0 0 :: (t9 ++ w3 tiesW))
def k10 : Nat := outK q10
def t10 : AH := outT q10
theorem ev10 (x y z u : Vl) (a b c : Int) : evE cfR rhs10 (sg (some x) (some y) (some z) (some u) none) (dOb a b c :: (t9 ++ w3 tiesW)) = .ok (.ref k10) (dOb a b c :: t10) := by kernel_rfl
theorem cp10 (a b c : Int) : cop .ne (.ref ((dOb a b c :: t9).length + 2)) (.ref k10) (dOb a b c :: t10) = .ok (.bl false) (dOb a b c :: t10) := by kernel_rfl
def x10 : AH := t10.drop t9.length
theorem t10_eq : t10 = t9 ++ x10 := by kernel_rfl
-- due
def e11 : Ex := match nthS 10 F68.body with
  | .asg _ e => e
  | _ => .dead
def q11 : Rs Vl := evE cfR e11 (sg none none none none none) (dOb 0 0 0 :: t10)
def k11 : Nat := outK q11
def t11 : AH := outT q11
theorem ev11 (x y z u : Vl) (a b c : Int) : evE cfR e11 (sg (some x) (some y) (some z) (some u) none) (dOb a b c :: t10) = .ok (.ref k11) (dOb a b c :: t11) := by kernel_rfl
def x11 : AH := t11.drop t9.length
theorem t11_eq : t11 = t9 ++ x11 := by kernel_rfl
def t12 : AH := t11 ++ w3 dueW
theorem cp12 (a b c : Int) : cop .ne (.ref ((dOb a b c :: t11).length + 2)) (.ref k11) (dOb a b c :: t12) = .ok (.bl false) (dOb a b c :: t12) := by kernel_rfl
def x12 : AH := t12.drop t9.length
theorem t12_eq : t12 = t9 ++ x12 := by kernel_rfl
def t13 : AH := t12 ++ w3 dueW
theorem cp13 (a b c : Int) : cop .ne (.ref ((dOb a b c :: t12).length + 2)) (.ref k11) (dOb a b c :: t13) = .ok (.bl false) (dOb a b c :: t13) := by kernel_rfl
-- the rest hangs on nothing that was drawn
def end4 : Sxs := dpS 12 F68.body
def q14 : Rs (Fl × Sg) := evSs cfR end4 (sg none none none none (some (.ref k11))) (dOb 0 0 0 :: t13)
def t14 : AH := outT q14
def s14 : Sg → Sg := fun σ => match q14 with
  | .ok p _ => (σ.set 7 (p.2.getD 7 none)).set 8 (p.2.getD 8 none)
  | _ => σ
theorem ev14 (x y z u : Vl) (a b c : Int) : evSs cfR end4 (sg (some x) (some y) (some z) (some u) (some (.ref k11))) (dOb a b c :: t13) = .ok (.rt (.bl true), s14 (sg (some x) (some y) (some z) (some u) (some (.ref k11)))) (dOb a b c :: t14) := by kernel_rfl
theorem F68_tail : dpS 5 F68.body = .cons (.asg (.name 3) (.call 65 (.cons (.var 0) (.cons e6 .nil)))) (.cons (.asg (.name 4) (.call 65 (.cons (.var 0) (.cons e7 .nil)))) (.cons (.asg (.name 5) (.call 65 (.cons (.var 0) (.cons e8 .nil)))) (.cons (.asg (.name 6) (.call 65 (.cons (.var 0) (.cons e9 .nil))))
    (.cons (.if_ (.cmp .ne (.callG false 67 (.cons (.var 3) (.cons (.var 4) (.cons (.var 5) (.cons (.var 5) (.cons (.var 6) .nil)))))) rhs10) (.cons (.ret (.bl false)) .nil) .nil)
    (.cons (.asg (.name 7) e11)
    (.cons (.if_ (.or_ (.cmp .ne (.callG false 67 (.cons (.var 1) (.cons (.var 4) (.cons (.var 5) (.cons (.tup (.cons (.int 0) (.cons (.int 1) .nil))) (.cons (.var 6) .nil)))))) (.var 7)) (.cmp .ne (.callG false 67 (.cons (.var 1) (.cons (.var 4) (.cons (.tup (.cons (.int 1) (.cons (.int 0) .nil))) (.cons (.var 5) (.cons (.var 6) .nil)))))) (.var 7))) (.cons (.ret (.bl false)) .nil) .nil)
    end4)))))) := by kernel_rfl
theorem right_ok {a b c : Int} (hc : 0 ≤ c) (hc2 : c ≤ 900) : ∃ (a' c' : Int) (t : AH), callN Tb 11 68 [.ref 0] [dOb a b c] = .ok (.bl true) (dOb a' b c' :: t) ∧ 0 ≤ c' ∧ c' ≤ c + 4 := by
  have ll := lens
  simp only [Bool.and_eq_true, decide_eq_true_eq] at ll
  obtain ⟨⟨⟨⟨⟨⟨⟨⟨⟨⟨⟨l1, l2⟩, l3⟩, l4⟩, l5⟩, l6⟩, l7⟩, l8⟩, p1⟩, p2⟩, p3⟩, p4⟩ := ll
  have pos : ∀ {k : Nat}, Nat.blt 0 k = true → 0 < k := fun h => Nat.le_of_ble_eq_true h
  obtain ⟨x, a1, c1, hx, s1, g1, g1'⟩ := asg_pick (i := 3) (σ := sg (some (.ref k5)) none none none none) rfl (ev6 a b c) (it6 a b c) l1 l2 (pos p1) hc (by omega)
  obtain ⟨y, a2, c2, hy, s2, g2, g2'⟩ := asg_pick (i := 4) (σ := sg (some x) none none none none) rfl (ev7 x a1 b c1) (it7 a1 b c1) l3 l4 (pos p2) g1 (by omega)
  obtain ⟨z, a3, c3, hz, s3, g3, g3'⟩ := asg_pick (i := 5) (σ := sg (some x) (some y) none none none) rfl (ev8 x y a2 b c2) (it8 a2 b c2) l5 l6 (pos p3) g2 (by omega)
  obtain ⟨u, a4, c4, hu, s4, g4, g4'⟩ := asg_pick (i := 6) (σ := sg (some x) (some y) (some z) none none) rfl (ev9 x y z a3 b c3) (it9 a3 b c3) l7 l8 (pos p4) g3 (by omega)
  refine ⟨a4, c4, t14, ?_, g4, by omega⟩
  have v1 := List.all_eq_true.mp tb1 x hx
  have v2 := List.all_eq_true.mp (List.all_eq_true.mp tb2 x hx) y hy
  have v3 := List.all_eq_true.mp (List.all_eq_true.mp tb3 x hx) z hz
  have v4 := List.all_eq_true.mp (List.all_eq_true.mp tb4 x hx) u hu
  have v5 := tb5
  have v6 := List.all_eq_true.mp tb6 y hy
  have v7 := List.all_eq_true.mp tb7 z hz
  have v8 := List.all_eq_true.mp tb8 u hu
  simp only [Bool.and_eq_true] at v1 v2 v5 v6 v7
  obtain ⟨⟨⟨⟨⟨v11, v12⟩, v13⟩, v14⟩, v15⟩, v16⟩ := v1
  obtain ⟨⟨⟨v21, v22⟩, v23⟩, v24⟩ := v2
  obtain ⟨⟨⟨⟨⟨v51, v52⟩, v53⟩, v54⟩, v55⟩, v56⟩ := v5
  obtain ⟨⟨⟨v61, v62⟩, v63⟩, v64⟩ := v6
  obtain ⟨v71, v72⟩ := v7
  let D : Ob := dOb a4 b c4
  have e0 : ∀ t : AH, (D :: t9) ++ t = D :: (t9 ++ t) := fun t => rfl
  have n0 : (D :: t9) ++ [] = D :: t9 := List.append_nil _
  have w10 := words_ok (b := x) (w := y) (l := z) (r := z) (s := u) (ck_ok v11 []) (ck_ok v12 []) (ck_ok v13 []) (ck_ok v14 []) (ck_ok v15 []) (ck_ok v16 []) (ck_ok v21 []) (ck_ok v22 []) (ck_ok v23 []) (ck_ok v24 []) (ck_ok v3 []) (ck_ok v4 []) (h := (dOb a4 b c4 :: t9) ++ [])
  have w12 := words_ok (b := oneV) (w := y) (l := z) (r := .tup [.int 0, .int 1]) (s := u) (ck_ok v51 x11) (ck_ok v52 x11) (ck_ok v53 x11) (ck_ok v54 x11) (ck_ok v55 x11) (ck_ok v56 x11) (ck_ok v61 x11) (ck_ok v62 x11) (ck_ok v63 x11) (ck_ok v64 x11) (ck_ok v71 x11) (ck_ok v8 x11) (h := (dOb a4 b c4 :: t9) ++ x11)
  have w13 := words_ok (b := oneV) (w := y) (l := .tup [.int 1, .int 0]) (r := z) (s := u) (ck_ok v51 x12) (ck_ok v52 x12) (ck_ok v53 x12) (ck_ok v54 x12) (ck_ok v55 x12) (ck_ok v56 x12) (ck_ok v61 x12) (ck_ok v62 x12) (ck_ok v63 x12) (ck_ok v64 x12) (ck_ok v72 x12) (ck_ok v8 x12) (h := (dOb a4 b c4 :: t9) ++ x12)
  rw [List.append_nil] at w10
  have y11 : (dOb a4 b c4 :: t9) ++ x11 = dOb a4 b c4 :: t11 := by rw [t11_eq]; rfl
  have y12 : (dOb a4 b c4 :: t9) ++ x12 = dOb a4 b c4 :: t12 := by rw [t12_eq]; rfl
  rw [y11] at w12
  rw [y12] at w13
  refine call_ok (n := 10) (F := F68) (σ := s14 (sg (some x) (some y) (some z) (some u) (some (.ref k11)))) (by kernel_rfl) rfl ?_
  refine split_ok (k := 5) (st5 a b c) ?_
  rw [F68_tail, σ5_eq]
  refine S_cons s1 (S_cons s2 (S_cons s3 (S_cons s4 ?_)))
  refine S_cons (σ' := sg (some x) (some y) (some z) (some u) none) (h' := dOb a4 b c4 :: t10) (S_if (k := false) (B_cmp (E_callG (Es_cons (E_var rfl) (Es_cons (E_var rfl) (Es_cons (E_var rfl) (Es_cons (E_var rfl) (Es_cons (E_var rfl) rfl))))) w10) (ev10 x y z u a4 b c4) (cp10 a4 b c4)) rfl) ?_
  refine S_cons (σ' := sg (some x) (some y) (some z) (some u) (some (.ref k11))) (h' := dOb a4 b c4 :: t11) (S_asg (i := 7) (ev11 x y z u a4 b c4)) ?_
  refine S_cons (σ' := sg (some x) (some y) (some z) (some u) (some (.ref k11))) (h' := dOb a4 b c4 :: t13) (S_if (k := false) (B_or (B_cmp (E_callG (Es_cons (E_var rfl) (Es_cons (E_var rfl) (Es_cons (E_var rfl) (Es_cons (x := .tup [.int 0, .int 1]) rfl (Es_cons (E_var rfl) rfl))))) w12) (E_var rfl) (cp12 a4 b c4)) (B_cmp (E_callG (Es_cons (E_var rfl) (Es_cons (E_var rfl) (Es_cons (x := .tup [.int 1, .int 0]) rfl (Es_cons (E_var rfl) (Es_cons (E_var rfl) rfl))))) w13) (E_var rfl) (cp13 a4 b c4))) rfl) ?_
  exact ev14 x y z u a4 b c4
end Tx

set_option Elab.async false
set_option linter.all false
set_option maxRecDepth 100000
set_option maxHeartbeats 4000000
namespace Tx
open PySem Ip

section
variable {cf : Orc} {σ : Sg} {h : AH}
theorem E_ite {c : Te} {a b : Ex} {k : Bool} {x : Vl} {h1 h2 : AH} (q : evB cf c σ h = .ok k h1) (r : (if k = true then evE cf a σ h1 else evE cf b σ h1) = .ok x h2) : evE cf (.ite_ c a b) σ h = .ok x h2 := by
  unfold evE
  refine E_bind q ?_
  cases k <;> exact r
end
def scr0 (ns : List Int) : Ob := .ro (ns.map .int)
theorem dice_ok {n s p : Nat} {ns : List Int} {h : AH} (hs : h[s]? = some (scr0 ns)) (hp : p ≤ 100) : ∃ a b : Int, callN Tb (n + 1) 63 [.ref s, .int p] h = .ok (.ref h.length) (h ++ [dOb a b 0]) := by
  have hF : Tb[63]? = some F63 := by kernel_rfl
  let σ0 : Sg := [some (.ref s), some (.int p), none, none]
  have cell : ∃ i : Int, evE (callN Tb n) (.ite_ (.cmp .lt (.var 1) (.blt .len (.cons (.var 0) .nil))) (.blt .int (.cons (.ix (.var 0) (.var 1)) .nil)) (.bin .add (.bin .mul (.int 101) (.var 1)) (.int 43))) σ0 h = .ok (.int i) h := by
    have tl : evE (callN Tb n) (.blt .len (.cons (.var 0) .nil)) σ0 h = .ok (.int (ns.map Vl.int).length) h := by
      refine E_blt1 (E_var rfl) ?_
      show (M.bind (mems (.ref s)) _) h = _
      refine E_bind (a := ns.map .int) (h' := h) ?_ rfl
      show (M.bind (rd s) _) h = _
      exact E_bind (a := .ro (ns.map .int)) (h' := h) (by unfold rd; rw [hs]; rfl) rfl
    by_cases hlt : p < ns.length
    · refine ⟨ns[p], E_ite (k := true) (h1 := h) (B_cmp (E_var rfl) tl ?_) ?_⟩
      · show Rs.ok (Vl.bl (decide ((p : Int) < ((ns.map Vl.int).length : Int)))) h = _
        rw [decide_eq_true (by rw [List.length_map]; omega)]
      · simp only [if_true]
        refine E_blt1 (E_ix (E_var rfl) (E_var rfl) (z := .int ns[p]) (h3 := h) ?_) rfl
        unfold ixV
        refine E_bind (a := .ro (ns.map .int)) (h' := h) (by unfold rd; rw [hs]; rfl) ?_
        show optM (L2.atI (ns.map Vl.int) (p : Int)) h = _
        rw [L2.atI_nat (v := Vl.int ns[p]) (by rw [List.getElem?_map, List.getElem?_eq_getElem hlt]; rfl)]
        rfl
    · refine ⟨101 * (p : Int) + 43, E_ite (k := false) (h1 := h) (B_cmp (E_var rfl) tl ?_) ?_⟩
      · show Rs.ok (Vl.bl (decide ((p : Int) < ((ns.map Vl.int).length : Int)))) h = _
        rw [decide_eq_false (by rw [List.length_map]; omega)]
      · exact E_bin (E_bin rfl (E_var rfl) (bop_mul (by decide) (by omega))) rfl bop_add
  obtain ⟨i, hi⟩ := cell
  let ab : Int := if i < 0 then -i else i
  let σ1 : Sg := [some (.ref s), some (.int p), some (.int i), none]
  let L : Int := (if ab - 10 ^ 16 > 0 then ab - 10 ^ 16 else 0) % (10 ^ 60 * 10 ^ 60)
  let σ2 : Sg := [some (.ref s), some (.int p), some (.int i), some (.int L)]
  have eab : ∀ {σ : Sg}, σ[2]? = some (some (.int i)) → evE (callN Tb n) (.blt .abs (.cons (.var 2) .nil)) σ h = .ok (.int ab) h := fun hσ => E_blt1 (E_var hσ) rfl
  have m1 : 0 ≤ ab % 1152921504606846883 := Int.emod_nonneg _ (by decide)
  have m2 : ab % 1152921504606846883 < 1152921504606846883 := Int.emod_lt_of_pos _ (by decide)
  let g : Int := if decide (i < 0) then 1 else 0
  have hg : g = 0 ∨ g = 1 := by
    show (if decide (i < 0) = true then (1 : Int) else 0) = 0 ∨ (if decide (i < 0) = true then (1 : Int) else 0) = 1
    split
    · exact .inr rfl
    · exact .inl rfl
  refine ⟨L, ab % 1152921504606846883 * 37 + 883 * (p : Int) + 29 * g + 17, call_ok (F := F63) (σ := σ2) hF rfl ?_⟩
  show evSs (callN Tb n) F63.body σ0 h = _
  unfold F63
  simp only
  refine S_cons (σ' := σ1) (S_asg (i := 2) hi) ?_
  refine S_cons (σ' := σ2) (h' := h) (S_asg (i := 3) (x := .int L) (E_bin (x := .int (if ab - 10 ^ 16 > 0 then ab - 10 ^ 16 else 0)) (y := .int (10 ^ 60 * 10 ^ 60)) (h1 := h) (h2 := h) (E_blt2 (x := .int 0) (y := .int (ab - 10 ^ 16)) (h1 := h) (h2 := h) rfl (E_bin (x := .int ab) (y := .int (10 ^ 16)) (eab rfl) (by kernel_rfl) bop_sub) rfl) (by kernel_rfl) (bop_mod (by decide)))) ?_
  refine S_ret ?_
  unfold evE
  refine E_bind (Es_cons (E_var rfl) (Es_cons (E_bin (E_bin (E_bin (E_bin (E_bin (eab rfl) rfl (bop_mod (by decide))) rfl (bop_mul (by omega) (by decide))) (E_bin rfl (E_var rfl) (bop_mul (by decide) (by omega))) bop_add) (E_bin rfl (E_blt1 (x := .bl (decide (i < 0))) (z := .int g) (h1 := h) ?_ rfl) (bop_mul (by decide) (by omega))) bop_add) rfl bop_add) (Es_cons rfl rfl))) rfl
  unfold evE
  exact E_bind (E_var rfl) (E_bind rfl rfl)
/-- the framed turn -/
theorem turn_ok {d : Nat} {a b c : Int} {h : AH} (hd : h[d]? = some (dOb a b c)) (hc : 0 ≤ c) (hc2 : c ≤ 900) {σ : Sg} (hσ : σ[2]? = some (some (.ref d))) :
    ∃ (a' c' : Int), evB (callN Tb 11) (.val (.callG true 68 (.cons (.var 2) .nil))) σ h = .ok true (h.set d (dOb a' b c')) ∧ 0 ≤ c' ∧ c' ≤ c + 4 := by
  obtain ⟨a', c', t, e, h1, h2⟩ := right_ok (a := a) (b := b) hc hc2
  refine ⟨a', c', ?_, h1, h2⟩
  have fr : frameW (callN Tb 11 68) [.ref d] h = .ok (.bl true) (h.set d (dOb a' b c')) := by
    unfold frameW
    have er : refsOf [Vl.ref d] = [d] := by simp [refsOf]
    have ef : fetch h [d] = some [dOb a b c] := by
      unfold fetch
      rw [hd]
      rfl
    have en : renm [d] [Vl.ref d] = some [.ref 0] := by
      have : Nat.beq d d = true := Nat.beq_refl d
      simp [renm, Ip.placeOf, this]
    rw [er, ef, en]
    simp only [e]
    simp [wback, back, obFree, dOb, rfrees, rfree]
  unfold evB
  refine E_bind (a := .bl true) (h' := h.set d (dOb a' b c')) ?_ rfl
  unfold evE
  refine E_bind (Es_cons (E_var hσ) rfl) ?_
  simp only [if_true]
  exact fr
theorem law_ok (ns : List Int) (hl : ns.length ≤ 63) : ∃ h', callN Tb 12 69 [.ref 0] [.ro (ns.map .int)] = .ok (.bl true) h' := by
  have hF : Tb[69]? = some F69 := by kernel_rfl
  let body : Vl → Sg → M (Fl × Sg) := fun v σ1 => (evT (callN Tb 11) (.name 1) v σ1).bind fun σ2 => evSs (callN Tb 11) (.cons (.asg (.name 2) (.call 63 (.cons (.var 0) (.cons (.var 1) .nil)))) (.cons (.if_ (.or_ (.not_ (.val (.callG true 68 (.cons (.var 2) .nil)))) (.not_ (.val (.callG true 68 (.cons (.var 2) .nil))))) (.cons (.ret (.bl false)) .nil) .nil) .nil)) σ2
  have one : ∀ (p : Nat) (x1 x2 : Option Vl) (h : AH), p ≤ 100 → h[0]? = some (scr0 ns) → ∃ (y1 y2 : Option Vl) (h' : AH), h'[0]? = some (scr0 ns) ∧ body (.int p) [some (.ref 0), x1, x2] h = .ok (.nx, [some (.ref 0), y1, y2]) h' := by
    intro p x1 x2 h hp hh
    obtain ⟨a, b, hd⟩ := dice_ok (n := 10) hh hp
    have hlen : 0 < h.length := (List.getElem?_eq_some_iff.mp hh).1
    have g0 : (h ++ [dOb a b 0])[h.length]? = some (dOb a b 0) := by simp
    let σ2 : Sg := [some (.ref 0), some (.int p), some (.ref h.length)]
    obtain ⟨a1, c1, t1, u1, u2⟩ := turn_ok (σ := σ2) g0 (by decide) (by decide) rfl
    have g1 : ((h ++ [dOb a b 0]).set h.length (dOb a1 b c1))[h.length]? = some (dOb a1 b c1) := List.getElem?_set_self (by simp)
    obtain ⟨a2, c2, t2, w1, w2⟩ := turn_ok (σ := σ2) g1 u1 (by omega) rfl
    refine ⟨some (.int p), some (.ref h.length), _, ?_, E_bind (a := [some (.ref 0), some (.int p), x2]) (h' := h) rfl (S_cons (σ' := σ2) (S_asg (i := 2) (E_call (Es_cons (E_var rfl) (Es_cons (E_var rfl) rfl)) hd)) (S_cons (σ' := σ2) (S_if (k := false) (B_or (by unfold evB; exact E_bind t1 rfl) (by unfold evB; exact E_bind t2 rfl)) rfl) rfl))⟩
    rw [List.getElem?_set_ne (by omega), List.getElem?_set_ne (by omega), List.getElem?_append_left hlen]
    exact hh
  have loop : ∀ (xs : List Nat) (x1 x2 : Option Vl) (h : AH), (∀ p ∈ xs, p ≤ 100) → h[0]? = some (scr0 ns) → ∃ (y1 y2 : Option Vl) (h' : AH), flp none body (xs.map fun (p : Nat) => Vl.int (p : Int)) [some (.ref 0), x1, x2] h = .ok (.nx, [some (.ref 0), y1, y2]) h' := by
    intro xs
    induction xs with
    | nil => exact fun x1 x2 h _ _ => ⟨x1, x2, h, rfl⟩
    | cons p xs ih =>
      intro x1 x2 h hp hh
      obtain ⟨y1, y2, h1, g1, e⟩ := one p x1 x2 h (hp p (.head _)) hh
      obtain ⟨z1, z2, h2, e2⟩ := ih y1 y2 h1 (fun q hq => hp q (.tail _ hq)) g1
      refine ⟨z1, z2, h2, ?_⟩
      rw [List.map_cons, flp]
      exact E_bind (a := ()) (h' := h) rfl (E_bind e e2)
  have rng : ∀ (k lo : Nat), rangeA (lo : Int) k = (List.range' lo k).map fun (p : Nat) => Vl.int (p : Int) := by
    intro k
    induction k with
    | zero => intro lo; rfl
    | succ k ih =>
      intro lo
      rw [rangeA, List.range'_succ, List.map_cons]
      have := ih (lo + 1)
      rw [← this]
      rfl
  let len : Int := ((ns.map Vl.int).length : Int)
  let m : Int := if len < 4 then len else 4
  let k : Int := if m > 1 then m else 1
  have hlen : len = (ns.length : Int) := by show ((ns.map Vl.int).length : Int) = _; rw [List.length_map]
  have hk : 0 ≤ k ∧ k ≤ 4 := by
    show 0 ≤ (if (if len < 4 then len else 4) > 1 then (if len < 4 then len else 4) else 1) ∧ (if (if len < 4 then len else 4) > 1 then (if len < 4 then len else 4) else 1) ≤ 4
    split <;> split <;> omega
  obtain ⟨y1, y2, h', e⟩ := loop (List.range' 0 k.toNat) none none [.ro (ns.map .int)] (fun p hp => by
    have := List.mem_range'_1.mp hp
    omega) rfl
  refine ⟨h', call_ok (F := F69) (σ := [some (.ref 0), y1, y2]) hF rfl ?_⟩
  show evSs (callN Tb 11) F69.body [some (.ref 0), none, none] [.ro (ns.map .int)] = _
  unfold F69
  simp only
  refine S_cons (σ' := [some (.ref 0), y1, y2]) (h' := h') ?_ (S_ret rfl)
  unfold evS
  have near_k : near k = true := by
    unfold near
    rw [decide_eq_true (by omega), decide_eq_true (by omega)]; rfl
  refine E_bind (a := (rangeA 0 k.toNat, none)) (h' := [.ro (ns.map .int)]) ?_ ?_
  · unfold evI
    refine E_bind (a := .int k) (h' := [.ro (ns.map .int)]) (E_blt2 (x := .int 1) (y := .int m) rfl (E_blt2 (x := .int 4) (y := .int len) rfl (E_blt1 (E_var rfl) rfl) rfl) rfl) ?_
    refine E_bind (a := k) (h' := [.ro (ns.map .int)]) rfl ?_
    unfold guardB
    rw [near_k]; rfl
  · have er := rng k.toNat 0
    have er : rangeA 0 k.toNat = (List.range' 0 k.toNat).map fun (p : Nat) => Vl.int (p : Int) := er
    simp only [er]
    exact e
end Tx

set_option Elab.async false
set_option linter.all false
set_option maxRecDepth 100000
set_option maxHeartbeats 0
open PySem PySem.W PySem.Calls PyProof.Rows
theorem PySem.Challenge.cw_staypairs_k76_errors_of_ties_holds : PySem.Challenge.rw_staypairs_k76_errors_of_ties.Holds := by
  w_on; o_law
  refine HandSHeadRun.head_any (r := OpenLaw.row PySem.Challenge.rw_staypairs_k76_errors_of_ties) (q := view (OpenLaw.row PySem.Challenge.rw_staypairs_k76_errors_of_ties).prog [77]) (H := Tx.hk) (ob := Tx.ob) (M := 6000) (loose := Tx.names)
    (d := HandSHeadRun.topDef (OpenLaw.row PySem.Challenge.rw_staypairs_k76_errors_of_ties).prog 77) (kwd := []) Tx.ob_eq
    (by kernel_rfl) (fun s => by kernel_rfl) Tx.run (by kernel_rfl) (by kernel_rfl) (by kernel_rfl) (by rfl) (by first | assumption | decide +kernel) (by decide +kernel) ⟨rfl, rfl, rfl, rfl, rfl, by decide +kernel⟩ ?hw ?hc
  case hw => w_witness2
  case hc => exact Ip.law_walk Tx.cg PySem.Challenge.rw_staypairs_k76_errors_of_ties 12 69 1500 Tx.F69 Tx.D69 (by kernel_rfl) (by kernel_rfl) rfl (by kernel_rfl) (by kernel_rfl) (by kernel_rfl) rfl rfl (by kernel_rfl) ⟨rfl, by decide, by decide⟩ Tx.tx Tx.tw (by decide) (by kernel_rfl) fun ns hl _ => Tx.law_ok ns hl

