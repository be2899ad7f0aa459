import PyProof.Rows.All
import Wide.All
import OpenK.AllK
import Wide.FinOn
import HandS.ForMost
import HandS.ForExc
import HandS.Conv
import HandS.Style
import HandS.NoneIn
import HandS.SortInts
import HandS.EndTab
import HandS.EndBits
import HandS.AnyAll
import HandS.TupSets
import HandS.SetKeys
import HandS.DictComp
import HandS.Evl
import HandS.IsInst
import HandS.Walk
import HandS.WordsDict
import HandS.Strs
import HandS.Small
import HandS.Defaults
import KE.GoesEnum
import HandS.Property
import HandS.GenList
import HandS.ExcIs
import HandS.ExcInit
import HandS.ExcSuper
import HandS.ExcField
import HandS.TryMany
import HandS.Lambda
import HandS.MakeKw
import HandS.MakeKwOnly
import HandS.RepeatKit
import HandS.Sort
import PyProof.Rows.TupDisplay
import PySem.Challenge.RW_apartcalls_k30_whole_turns
set_option Elab.async false
set_option maxHeartbeats 1000000
set_option linter.all false
set_option maxRecDepth 100000
/-! K0: a relation between heaps, steps through readings, looks. -/
namespace Ap
open PySem L2

/-! ### heaps -/
/-- the tables of the defs in which lambdas stand: the name of all that they hold -/
def lamT : Addr → Option Str := fun b => none
/-- H' is H, but for the things at S (they may have changed) and the tables (they may have grown) -/
structure Kp (S : List Addr) (H H' : Hp) : Prop where
  keep : ∀ b o, b ∉ S → H b = some o → (∀ ps, o ≠ .tbl ps) → H' b = some o
  tbl : ∀ b ps, H b = some (.tbl ps) → TriplesOk ps.toList → ∃ ps', H' b = some (.tbl ps') ∧ TriplesOk ps'.toList
  there : ∀ b o, H b = some o → ∃ o', H' b = some o'
  lam : ∀ b q, lamT b = some q → LamX.TabS H b q → LamX.TabS H' b q
theorem Kp.refl (S : List Addr) (H : Hp) : Kp S H H := ⟨fun _ _ _ h _ => h, fun _ ps h t => ⟨ps, h, t⟩, fun _ o h => ⟨o, h⟩, fun _ _ _ h => h⟩
theorem Kp.mono {S S' : List Addr} {H H' : Hp} (k : Kp S H H') (h : ∀ b ∈ S, b ∈ S') : Kp S' H H' := ⟨fun b o n => k.keep b o (fun z => n (h b z)), k.tbl, k.there, k.lam⟩
theorem Kp.any {S : List Addr} {H H' : Hp} (k : Kp [] H H') : Kp S H H' := k.mono (fun _ z => nomatch z)
theorem Kp.trans {S : List Addr} {H H1 H2 : Hp} (a : Kp S H H1) (b : Kp S H1 H2) : Kp S H H2 :=
  ⟨fun c o n h t => b.keep c o n (a.keep c o n h t) t, fun c ps h t => by
    obtain ⟨ps', h', t'⟩ := a.tbl c ps h t
    exact b.tbl c ps' h' t', fun c o h => by
    obtain ⟨o', h'⟩ := a.there c o h
    exact b.there c o' h', fun c q l t => b.lam c q l (a.lam c q l t)⟩
def kd : HO → Nat
  | .lst _ => 0 | .tup _ => 1 | .dK _ => 2 | .dT _ => 3 | .set _ _ => 4 | .ins _ _ _ => 5 | .own _ => 6 | .xd _ => 7 | .met _ _ => 8 | .rng _ _ => 9 | .frz _ _ => 10 | .tbl _ => 11 | .ext _ => 12
/-- no lambda's code lies at p -/
def NC (H : Hp) (p : Addr) : Prop := ∀ q, H p ≠ some (LamX.CodeO p q)
theorem NC.none {H : Hp} {p : Addr} (h : H p = none) : NC H p := fun q z => by rw [h] at z; cases z
theorem NC.some {H : Hp} {p : Addr} {o : HO} (h : H p = some o) (k : Nat.beq (kd o) 12 = false) : NC H p := fun q z => by
  rw [h] at z
  cases z
  exact absurd k (show ¬ (Nat.beq 12 12 = false) by decide)
/-- a heap in which a lambda's code could lie at p -/
theorem code_heap (p : Addr) (q : Str) : ∃ h : Heap, (∃ (oc : Obj) (vs : Array Value) (t : Tok), h.get? p = some oc ∧ oc.data = .fields vs ∧ vs[1]? = some (.str q t)) ∧ ∀ b o, h.get? b = some o → ∃ vs, o.data = .fields vs := by
  refine ⟨{ objs := Array.replicate (p + 1) { cls := .none, data := .fields #[.none, .str q 0] } }, ⟨{ cls := .none, data := .fields #[.none, .str q 0] }, _, 0, ?_, rfl, rfl⟩, fun b o e => ?_⟩
  · have e : (Array.replicate (p + 1) ({ cls := .none, data := .fields #[.none, .str q 0] } : Obj))[p]? = some { cls := .none, data := .fields #[.none, .str q 0] } := by
      rw [Array.getElem?_replicate, if_pos (Nat.lt_succ_self _)]
    unfold Heap.get?
    rw [e]
  · unfold Heap.get? at e
    rw [Array.getElem?_replicate] at e
    by_cases l : b < p + 1
    · rw [if_pos l] at e
      cases e
      exact ⟨_, rfl⟩
    · rw [if_neg l] at e
      cases e
theorem NC.ext {H : Hp} {p : Addr} {F : Heap → Prop} (e : H p = Option.some (.ext F)) (hF : ∀ h, F h → ∃ b o, h.get? b = Option.some o ∧ ∀ vs, o.data ≠ .fields vs) : NC H p := fun q z => by
  rw [e] at z
  unfold LamX.CodeO at z
  have z := HO.ext.inj (Option.some.inj z)
  obtain ⟨h, h1, h2⟩ := code_heap p q
  obtain ⟨b, o, b1, b2⟩ := hF h (by rw [z]; exact h1)
  obtain ⟨vs, b3⟩ := h2 b o b1
  exact b2 vs b3
theorem NC.self {H : Hp} {p : Addr} {o : HO} (k : Nat.beq (kd o) 12 = false) : NC (upd H p o) p := NC.some upd_same k
theorem NC.step {H : Hp} {p q : Addr} {o : HO} (k : Nat.beq (kd o) 12 = false) (h : NC H p) : NC (upd H q o) p := by
  by_cases z : p = q
  · subst z; exact NC.self k
  · intro u e
    rw [upd_ne z] at e
    exact h u e
theorem TabS.upd_ {H' : Hp} {b p : Addr} {q : Str} {o : HO} (hb : b ≠ p) (nc : NC H' p) (t : LamX.TabS H' b q) : LamX.TabS (upd H' p o) b q := by
  obtain ⟨ps, e, tr, f⟩ := t
  refine ⟨ps, by rw [upd_ne hb]; exact e, tr, fun pos cv hc => ?_⟩
  obtain ⟨c, e1, e2⟩ := f pos cv hc
  exact ⟨c, e1, by rw [upd_ne (show c ≠ p from fun z => by rw [z] at e2; exact nc q e2)]; exact e2⟩
theorem Kp.new {S : List Addr} {H : Hp} {p : Addr} {o : HO} (h : H p = none) : Kp S H (upd H p o) :=
  ⟨fun b u _ e _ => by rw [upd_ne (ne_of_none e h)]; exact e, fun b ps e t => ⟨ps, by rw [upd_ne (ne_of_none e h)]; exact e, t⟩, fun b u e => ⟨u, by rw [upd_ne (ne_of_none e h)]; exact e⟩,
    fun b q _ t => TabS.upd_ (by obtain ⟨ps, e, _⟩ := t; exact ne_of_none e h) (NC.none h) t⟩
/-- a thing that is not known to H is laid or changed -/
theorem Kp.put {S : List Addr} {H H' : Hp} {p : Addr} {o : HO} (k : Kp S H H') (h : H p = none) (nc : NC H' p := by first | exact NC.self rfl | exact NC.none (by assumption) | exact NC.some (by assumption) rfl | (refine NC.step rfl ?_; first | exact NC.self rfl | exact NC.none (by assumption) | exact NC.some (by assumption) rfl | (refine NC.step rfl ?_; first | exact NC.self rfl | exact NC.none (by assumption) | exact NC.some (by assumption) rfl | (refine NC.step rfl ?_; first | exact NC.self rfl | exact NC.none (by assumption) | exact NC.some (by assumption) rfl | (refine NC.step rfl ?_; first | exact NC.self rfl | exact NC.none (by assumption) | exact NC.some (by assumption) rfl))))) : Kp S H (upd H' p o) := by
  refine ⟨fun b u n e t => ?_, fun b ps e t => ?_, fun b u e => ?_, fun b q l t => ?_⟩
  · rw [upd_ne (ne_of_none e h)]; exact k.keep b u n e t
  · rw [upd_ne (ne_of_none e h)]; exact k.tbl b ps e t
  · rw [upd_ne (ne_of_none e h)]; exact k.there b u e
  · exact TabS.upd_ (by obtain ⟨ps, e, _⟩ := t; exact ne_of_none e h) nc (k.lam b q l t)
/-- a thing at S is changed -/
theorem Kp.mut {S : List Addr} {H H' : Hp} {p : Addr} {o u : HO} (k : Kp S H H') (h : p ∈ S) (hp : H p = some u) (nt : ∀ ps, u ≠ .tbl ps) (nc : NC H' p := by first | exact NC.self rfl | exact NC.none (by assumption) | exact NC.some (by assumption) rfl | (refine NC.step rfl ?_; first | exact NC.self rfl | exact NC.none (by assumption) | exact NC.some (by assumption) rfl | (refine NC.step rfl ?_; first | exact NC.self rfl | exact NC.none (by assumption) | exact NC.some (by assumption) rfl | (refine NC.step rfl ?_; first | exact NC.self rfl | exact NC.none (by assumption) | exact NC.some (by assumption) rfl | (refine NC.step rfl ?_; first | exact NC.self rfl | exact NC.none (by assumption) | exact NC.some (by assumption) rfl))))) : Kp S H (upd H' p o) := by
  refine ⟨fun b v n e t => ?_, fun b ps e t => ?_, fun b v e => ?_, fun b q l t => ?_⟩
  · rw [upd_ne (show b ≠ p from fun z => n (by rw [z]; exact h))]; exact k.keep b v n e t
  · rw [upd_ne (show b ≠ p from fun z => by rw [z, hp] at e; exact nt ps (Option.some.inj e))]; exact k.tbl b ps e t
  · by_cases z : b = p
    · exact ⟨o, by rw [z]; exact upd_same⟩
    · rw [upd_ne z]; exact k.there b v e
  · refine TabS.upd_ (fun z => ?_) nc (k.lam b q l t)
    obtain ⟨ps, e, _⟩ := t
    rw [z, hp] at e
    exact nt ps (Option.some.inj e)
theorem Kp.free {S : List Addr} {H H' : Hp} (k : Kp S H H') {p : Addr} (h : H' p = none) : H p = none := by
  cases e : H p with
  | none => rfl
  | some o =>
    obtain ⟨o', h'⟩ := k.there p o e
    rw [h] at h'
    cases h'
theorem Kp.lst {S : List Addr} {H H' : Hp} (k : Kp S H H') {p : Addr} {xs : List V} (n : p ∉ S) (h : H p = some (.lst xs)) : H' p = some (.lst xs) := k.keep p _ n h (fun _ z => nomatch z)
theorem Kp.tup {S : List Addr} {H H' : Hp} (k : Kp S H H') {p : Addr} {xs : List V} (n : p ∉ S) (h : H p = some (.tup xs)) : H' p = some (.tup xs) := k.keep p _ n h (fun _ z => nomatch z)
theorem Kp.frz {S : List Addr} {H H' : Hp} (k : Kp S H H') {p : Addr} {o : Obj} {u : HO} (n : p ∉ S) (h : H p = some (.frz o u)) : H' p = some (.frz o u) := k.keep p _ n h (fun _ z => nomatch z)
theorem Kp.rdl {S : List Addr} {K : PySem.W.Frag} {H H' : Hp} (k : Kp S H H') {p : Addr} {xs : List V} (n : p ∉ S) (h : SqL K H p xs) : SqL K H' p xs := by
  rcases h with (h | ⟨o, h⟩) | h
  · exact .inl (.inl (k.lst n h))
  · exact .inl (.inr ⟨o, k.frz n h⟩)
  · exact .inr h
/-- the tables that are looked at -/
def Tabs (T : List Addr) (H : Hp) : Prop := ∀ b ∈ T, ∃ ps, H b = some (.tbl ps) ∧ TriplesOk ps.toList
theorem Kp.tabs {S T : List Addr} {H H' : Hp} (k : Kp S H H') (h : Tabs T H) : Tabs T H' := fun b hb => by
  obtain ⟨ps, e, t⟩ := h b hb
  exact k.tbl b ps e t

/-! ### data, with what is true of its places -/
mutual
inductive Da (P : Addr → Prop) (H : Hp) : V → PyData → Prop
  | non : Da P H .non .none
  | bl (b : Bool) : Da P H (.bl b) (.bool b)
  | int (i : Int) : Da P H (.int i) (.int i)
  | str (x : Str) : Da P H (.str x) (.str x)
  | lst {a : Addr} {xs : List V} {ds : List PyData} : P a → H a = some (.lst xs) → DaAll P H xs ds → Da P H (.ref a) (.list ds)
  | tup {a : Addr} {xs : List V} {ds : List PyData} : P a → H a = some (.tup xs) → DaAll P H xs ds → Da P H (.ref a) (.tuple ds)
inductive DaAll (P : Addr → Prop) (H : Hp) : List V → List PyData → Prop
  | nil : DaAll P H [] []
  | cons {v : V} {vs : List V} {d : PyData} {ds : List PyData} : Da P H v d → DaAll P H vs ds → DaAll P H (v :: vs) (d :: ds)
end
mutual
theorem Da.dp {P : Addr → Prop} {K : PySem.W.Frag} {H : Hp} : ∀ {d : PyData} {v : V}, Da P H v d → Dp K H v d
  | _, _, .non => .non
  | _, _, .bl b => .bl b
  | _, _, .int i => .int i
  | _, _, .str x => .str x
  | _, _, .lst _ h a => .lst (SqL.of h) (DaAll.dp a)
  | _, _, .tup _ h a => .tup (SqT.of h) (DaAll.dp a)
theorem DaAll.dp {P : Addr → Prop} {K : PySem.W.Frag} {H : Hp} : ∀ {ds : List PyData} {vs : List V}, DaAll P H vs ds → DpAll K H vs ds
  | _, _, .nil => .nil
  | _, _, .cons h t => .cons (Da.dp h) (DaAll.dp t)
end
mutual
/-- kept, and what is true of the places made wider -/
theorem Da.keep {P P' : Addr → Prop} {S : List Addr} {H H' : Hp} (k : Kp S H H') (n : ∀ b, P b → b ∉ S) (w : ∀ b, P b → P' b) : ∀ {d : PyData} {v : V}, Da P H v d → Da P' H' v d
  | _, _, .non => .non
  | _, _, .bl b => .bl b
  | _, _, .int i => .int i
  | _, _, .str x => .str x
  | _, _, .lst p h a => .lst (w _ p) (k.lst (n _ p) h) (DaAll.keep k n w a)
  | _, _, .tup p h a => .tup (w _ p) (k.tup (n _ p) h) (DaAll.keep k n w a)
theorem DaAll.keep {P P' : Addr → Prop} {S : List Addr} {H H' : Hp} (k : Kp S H H') (n : ∀ b, P b → b ∉ S) (w : ∀ b, P b → P' b) : ∀ {ds : List PyData} {vs : List V}, DaAll P H vs ds → DaAll P' H' vs ds
  | _, _, .nil => .nil
  | _, _, .cons h t => .cons (Da.keep k n w h) (DaAll.keep k n w t)
end
theorem DaAll.append {P : Addr → Prop} {H : Hp} : ∀ {xs ys : List V} {ds es : List PyData}, DaAll P H xs ds → DaAll P H ys es → DaAll P H (xs ++ ys) (ds ++ es)
  | _, _, _, _, .nil, b => b
  | _, _, _, _, .cons h t, b => .cons h (DaAll.append t b)
theorem DaAll.length {P : Addr → Prop} {H : Hp} : ∀ {xs : List V} {ds : List PyData}, DaAll P H xs ds → xs.length = ds.length
  | _, _, .nil => rfl
  | _, _, .cons _ t => by simp [DaAll.length t]
theorem DaAll.get {P : Addr → Prop} {H : Hp} : ∀ {xs : List V} {ds : List PyData} {i : Nat} {d : PyData}, DaAll P H xs ds → ds[i]? = some d → ∃ v, xs[i]? = some v ∧ Da P H v d
  | _, _, 0, d, .cons h _, e => ⟨_, rfl, by cases e; exact h⟩
  | _, _, i + 1, d, .cons _ t, e => DaAll.get (i := i) t e
theorem DaAll.getV {P : Addr → Prop} {H : Hp} : ∀ {xs : List V} {ds : List PyData} {i : Nat} {v : V}, DaAll P H xs ds → xs[i]? = some v → ∃ d, ds[i]? = some d ∧ Da P H v d
  | _, _, 0, v, .cons h _, e => ⟨_, rfl, by cases e; exact h⟩
  | _, _, i + 1, v, .cons _ t, e => DaAll.getV (i := i) t e
theorem DaAll.ints {P : Addr → Prop} {H : Hp} : ∀ (ns : List Int), DaAll P H (ns.map V.int) (ns.map PyData.int)
  | [] => .nil
  | n :: r => .cons (.int n) (DaAll.ints r)
theorem DaAll.ints_inv {P : Addr → Prop} {H : Hp} : ∀ {ns : List Int} {xs : List V}, DaAll P H xs (ns.map PyData.int) → xs = ns.map V.int
  | [], _, .nil => rfl
  | n :: r, _, .cons (.int _) t => by rw [DaAll.ints_inv (ns := r) t]; rfl
theorem Da.ints {P : Addr → Prop} {H : Hp} {p : Addr} {ns : List Int} (h : P p) (e : H p = some (.lst (ns.map V.int))) : Da P H (.ref p) (.list (ns.map PyData.int)) := .lst h e (DaAll.ints ns)
theorem Da.list_inv {P : Addr → Prop} {H : Hp} {v : V} {ds : List PyData} (h : Da P H v (.list ds)) : ∃ p xs, v = .ref p ∧ P p ∧ H p = some (.lst xs) ∧ DaAll P H xs ds := by
  cases h with
  | lst a b c => exact ⟨_, _, rfl, a, b, c⟩
theorem Da.ints_inv {P : Addr → Prop} {H : Hp} {v : V} {ns : List Int} (h : Da P H v (.list (ns.map PyData.int))) : ∃ p, v = .ref p ∧ P p ∧ H p = some (.lst (ns.map V.int)) := by
  obtain ⟨p, xs, rfl, a, b, c⟩ := h.list_inv
  rw [DaAll.ints_inv c] at b
  exact ⟨p, rfl, a, b⟩

theorem triv_sz {n : Nat} (h : n ≤ 1000000) : n ≤ sizeLine := Nat.le_trans h (by decide)
theorem triv_szl {n : Nat} (h : n ≤ 1000000) : n < sizeLine := Nat.lt_of_le_of_lt h (by decide)
theorem atI_of {α : Type} {xs : List α} {i : Int} {n : Nat} {v : α} (e : i = n) (h : xs[n]? = some v) : atI xs i = some v := by
  rw [e]
  exact atI_nat h
theorem ixN_of {n k : Nat} {i : Int} (e : i = (k : Int)) (h : k < n) : ixN n i = some k := by
  subst e
  unfold ixN
  rw [if_pos (by omega), if_pos (by omega)]
  rfl
/-! ### steps through readings -/
/-- one step: of the goal G the goal N is left -/
class St (G : Prop) (N : outParam Prop) : Prop where
  go : N → G
section
variable {X : Cx} {K : PySem.W.Frag} {σ : L2.St} {H H1 : Hp} {Q : VK} {v w' x y z : V} {t u : TS} {te tf : TE} {tt tu : TT} {g : TG} {ta : TA} {D : Ends} {i j : Int}
theorem g_seq (h : t ⟨u D, D.rt, D.bk, D.ct⟩ σ H) : tSeq t u D σ H := h
instance i_seq : St (tSeq t u D σ H) (t ⟨u D, D.rt, D.bk, D.ct⟩ σ H) := ⟨g_seq⟩
def kG (g : TG) (R : L2.St → Hp → Prop) (σ : L2.St) : VK := fun x H1 => g x σ H1 R
theorem g_kG {R : L2.St → Hp → Prop} (h : g v σ H R) : kG g R σ v H := h
instance i_kG {R : L2.St → Hp → Prop} : St (kG g R σ v H) (g v σ H R) := ⟨g_kG⟩
theorem g_asg (h : te σ H (kG g D.nx σ)) : tAsg te g D σ H := h
instance i_asg : St (tAsg te g D σ H) (te σ H (kG g D.nx σ)) := ⟨g_asg⟩
def kDr (R : L2.St → Hp → Prop) (σ : L2.St) : VK := fun _ H1 => R σ H1
theorem g_kDr {R : L2.St → Hp → Prop} (h : R σ H) : kDr R σ v H := h
instance i_kDr {R : L2.St → Hp → Prop} : St (kDr R σ v H) (R σ H) := ⟨g_kDr⟩
theorem g_drop (h : te σ H (kDr D.nx σ)) : tDrop te D σ H := h
instance i_drop : St (tDrop te D σ H) (te σ H (kDr D.nx σ)) := ⟨g_drop⟩
theorem g_ret (h : te σ H D.rt) : tRet te D σ H := h
instance i_ret : St (tRet te D σ H) (te σ H D.rt) := ⟨g_ret⟩
theorem g_retN (h : D.rt .non H) : tRetN D σ H := h
instance i_retN : St (tRetN D σ H) (D.rt .non H) := ⟨g_retN⟩
def kIf (A B : Hp → Prop) : Bool → Hp → Prop := fun b H1 => if b = true then A H1 else B H1
theorem g_if (h : tt σ H (kIf (t D σ) (u D σ))) : tIfS tt t u D σ H := h
instance i_if : St (tIfS tt t u D σ H) (tt σ H (kIf (t D σ) (u D σ))) := ⟨g_if⟩
section
variable {A B : Hp → Prop} {c : Prop} [Decidable c] {b : Bool}
theorem g_kT (h : A H) : kIf A B true H := h
instance i_kT : St (kIf A B true H) (A H) := ⟨g_kT⟩
theorem g_kF (h : B H) : kIf A B false H := by
  show if false = true then A H else B H
  rw [if_neg Bool.false_ne_true]; exact h
instance i_kF : St (kIf A B false H) (B H) := ⟨g_kF⟩
theorem g_kB (h1 : b = true → A H) (h2 : b = false → B H) : kIf A B b H := by
  cases b with
  | true => exact g_kT (h1 rfl)
  | false => exact g_kF (h2 rfl)
theorem g_kD (h1 : c → A H) (h2 : ¬ c → B H) : kIf A B (decide c) H := g_kB (fun e => h1 (of_decide_eq_true e)) (fun e => h2 (of_decide_eq_false e))
theorem g_kN (h1 : ¬ c → A H) (h2 : c → B H) : kIf A B (!decide c) H := g_kB (fun e => h1 (fun z => by rw [decide_eq_true z] at e; cases e)) (fun e => h2 (by
  by_cases z : c
  · exact z
  · rw [decide_eq_false z] at e; cases e))
theorem g_kY (e : b = true) (h : A H) : kIf A B b H := by subst e; exact g_kT h
theorem g_kX (e : b = false) (h : B H) : kIf A B b H := by subst e; exact g_kF h
theorem g_kDY (e : c) (h : A H) : kIf A B (decide c) H := g_kY (decide_eq_true e) h
theorem g_kDX (e : ¬ c) (h : B H) : kIf A B (decide c) H := g_kX (decide_eq_false e) h
theorem g_kNY (e : ¬ c) (h : A H) : kIf A B (!decide c) H := g_kY (by rw [decide_eq_false e]; rfl) h
theorem g_kNX (e : c) (h : B H) : kIf A B (!decide c) H := g_kX (by rw [decide_eq_true e]; rfl) h
end
theorem g_next (h : D.nx σ H) : tNext D σ H := h
instance i_next : St (tNext D σ H) (D.nx σ H) := ⟨g_next⟩
theorem g_brk (h : D.bk σ H) : tBreak D σ H := h
instance i_brk : St (tBreak D σ H) (D.bk σ H) := ⟨g_brk⟩
section
variable {a c d : L2.St → Hp → Prop} {b : VK}
theorem g_nx (h : a σ H) : Ends.nx (Ends.mk a b c d) σ H := h
instance i_nx : St (Ends.nx (Ends.mk a b c d) σ H) (a σ H) := ⟨g_nx⟩
theorem g_rt (h : b v H) : Ends.rt (Ends.mk a b c d) v H := h
instance i_rt : St (Ends.rt (Ends.mk a b c d) v H) (b v H) := ⟨g_rt⟩
theorem g_bk (h : c σ H) : Ends.bk (Ends.mk a b c d) σ H := h
instance i_bk : St (Ends.bk (Ends.mk a b c d) σ H) (c σ H) := ⟨g_bk⟩
theorem g_ct (h : d σ H) : Ends.ct (Ends.mk a b c d) σ H := h
instance i_ct : St (Ends.ct (Ends.mk a b c d) σ H) (d σ H) := ⟨g_ct⟩
end
theorem g_c (h : Q v H) : tC v σ H Q := h
instance i_c : St (tC v σ H Q) (Q v H) := ⟨g_c⟩
def kO1 (r : R2) (tf : TE) (σ : L2.St) (Q : VK) : VK := fun x H1 => tf σ H1 fun y H2 => r x y H2 Q
def kO2 (r : R2) (x : V) (Q : VK) : VK := fun y H2 => r x y H2 Q
theorem g_op {r : R2} (h : te σ H (kO1 r tf σ Q)) : tOp r te tf σ H Q := h
instance i_op {r : R2} : St (tOp r te tf σ H Q) (te σ H (kO1 r tf σ Q)) := ⟨g_op⟩
theorem g_kO1 {r : R2} (h : tf σ H (kO2 r x Q)) : kO1 r tf σ Q x H := h
instance i_kO1 {r : R2} : St (kO1 r tf σ Q x H) (tf σ H (kO2 r x Q)) := ⟨g_kO1⟩
theorem g_kO2 {r : R2} (h : r x y H Q) : kO2 r x Q y H := h
instance i_kO2 {r : R2} : St (kO2 r x Q y H) (r x y H Q) := ⟨g_kO2⟩
def kU (r : V → Hp → VK → Prop) (Q : VK) : VK := fun x H1 => r x H1 Q
theorem g_un {r : V → Hp → VK → Prop} (h : te σ H (kU r Q)) : tUn r te σ H Q := h
instance i_un {r : V → Hp → VK → Prop} : St (tUn r te σ H Q) (te σ H (kU r Q)) := ⟨g_un⟩
theorem g_kU {r : V → Hp → VK → Prop} (h : r x H Q) : kU r Q x H := h
instance i_kU {r : V → Hp → VK → Prop} : St (kU r Q x H) (r x H Q) := ⟨g_kU⟩
theorem g_rI0 {f : Int → Int → V} (h : Q (f i j) H) : rI0 f (.int i) (.int j) H Q := ⟨i, j, rfl, rfl, h⟩
instance i_rI0 {f : Int → Int → V} : St (rI0 f (.int i) (.int j) H Q) (Q (f i j) H) := ⟨g_rI0⟩
theorem g_rI {C : Int → Int → Prop} {f : Int → Int → V} (c : C i j) (h : Q (f i j) H) : rI C f (.int i) (.int j) H Q := ⟨i, j, rfl, rfl, c, h⟩
theorem g_rU {f : Int → V} (h : Q (f i) H) : rU f (.int i) H Q := ⟨i, rfl, h⟩
instance i_rU {f : Int → V} : St (rU f (.int i) H Q) (Q (f i) H) := ⟨g_rU⟩
abbrev LK := List V → Hp → Prop
theorem g_nil {R : LK} (h : R [] H) : tNil σ H R := h
instance i_nil {R : LK} : St (tNil σ H R) (R [] H) := ⟨g_nil⟩
def kC1 (ta : TA) (σ : L2.St) (R : LK) : VK := fun x H1 => ta σ H1 fun xs H2 => R (x :: xs) H2
def kC2 (x : V) (R : LK) : LK := fun xs H2 => R (x :: xs) H2
theorem g_cons {R : LK} (h : te σ H (kC1 ta σ R)) : tCons te ta σ H R := h
instance i_cons {R : LK} : St (tCons te ta σ H R) (te σ H (kC1 ta σ R)) := ⟨g_cons⟩
theorem g_kC1 {R : LK} (h : ta σ H (kC2 x R)) : kC1 ta σ R x H := h
instance i_kC1 {R : LK} : St (kC1 ta σ R x H) (ta σ H (kC2 x R)) := ⟨g_kC1⟩
theorem g_kC2 {R : LK} {xs : List V} (h : R (x :: xs) H) : kC2 x R xs H := h
instance i_kC2 {R : LK} {xs : List V} : St (kC2 x R xs H) (R (x :: xs) H) := ⟨g_kC2⟩
def kL (Q : VK) : LK := fun xs H1 => xs.length ≤ sizeLine ∧ ∀ p, H1 p = none → Q (.ref p) (upd H1 p (.lst xs))
def kT (Q : VK) : LK := fun xs H1 => xs.length ≤ sizeLine ∧ ∀ p, H1 p = none → Q (.ref p) (upd H1 p (.tup xs))
theorem g_lst (h : ta σ H (kL Q)) : tLst ta σ H Q := h
instance i_lst : St (tLst ta σ H Q) (ta σ H (kL Q)) := ⟨g_lst⟩
theorem g_tup (h : ta σ H (kT Q)) : tTup ta σ H Q := h
instance i_tup : St (tTup ta σ H Q) (ta σ H (kT Q)) := ⟨g_tup⟩
theorem g_kL {xs : List V} (s : Nat.ble xs.length 1000000 = true) (h : ∀ p, H p = none → Q (.ref p) (upd H p (.lst xs))) : kL Q xs H := ⟨Nat.le_trans (Nat.le_of_ble_eq_true s) (by decide), h⟩
theorem g_kTu {xs : List V} (s : Nat.ble xs.length 1000000 = true) (h : ∀ p, H p = none → Q (.ref p) (upd H p (.tup xs))) : kT Q xs H := ⟨Nat.le_trans (Nat.le_of_ble_eq_true s) (by decide), h⟩
def kR (r : List V → Hp → VK → Prop) (Q : VK) : LK := fun vs H1 => r vs H1 Q
theorem g_cb {r : List V → Hp → VK → Prop} (h : ta σ H (kR r Q)) : tCB r ta σ H Q := h
instance i_cb {r : List V → Hp → VK → Prop} : St (tCB r ta σ H Q) (ta σ H (kR r Q)) := ⟨g_cb⟩
theorem g_kR {r : List V → Hp → VK → Prop} {vs : List V} (h : r vs H Q) : kR r Q vs H := h
instance i_kR {r : List V → Hp → VK → Prop} {vs : List V} : St (kR r Q vs H) (r vs H Q) := ⟨g_kR⟩
def kS (sp : Sp) (dvs : List V) (E : XK) (Q : VK) : LK := fun vs H1 => sp (vs ++ dvs) H1 Q E
theorem g_call {sp : Sp} {dvs : List V} {E : XK} (h : ta σ H (kS sp dvs E Q)) : tCall sp dvs E ta σ H Q := h
instance i_call {sp : Sp} {dvs : List V} {E : XK} : St (tCall sp dvs E ta σ H Q) (ta σ H (kS sp dvs E Q)) := ⟨g_call⟩
/-- at a call: the promise's own premises -/
theorem g_kS {sp : Sp} {dvs vs : List V} {E : XK} (h : sp (vs ++ dvs) H Q E) : kS sp dvs E Q vs H := h
abbrev BK := Bool → Hp → Prop
def kB (R : BK) : VK := fun x H' => ∃ k, x = .bl k ∧ R k H'
theorem g_test {R : BK} (h : te σ H (kB R)) : tTest te σ H R := h
instance i_test {R : BK} : St (tTest te σ H R) (te σ H (kB R)) := ⟨g_test⟩
theorem g_tB {R : BK} (h : te σ H (kB R)) : tB te σ H R := h
instance i_tB {R : BK} : St (tB te σ H R) (te σ H (kB R)) := ⟨g_tB⟩
theorem g_kBl {b : Bool} {R : BK} (h : R b H) : kB R (.bl b) H := ⟨b, rfl, h⟩
instance i_kBl {b : Bool} {R : BK} : St (kB R (.bl b) H) (R b H) := ⟨g_kBl⟩
def kAn (tu : TT) (σ : L2.St) (R : BK) : BK := kIf (fun H1 => tu σ H1 R) (R false)
def kOr (tu : TT) (σ : L2.St) (R : BK) : BK := kIf (R true) (fun H1 => tu σ H1 R)
def kNo (R : BK) : BK := fun c H1 => R (!c) H1
theorem g_and {R : BK} (h : tt σ H (kIf (fun H1 => tu σ H1 R) (R false))) : tAnd tt tu σ H R := h
instance i_and {R : BK} : St (tAnd tt tu σ H R) (tt σ H (kIf (fun H1 => tu σ H1 R) (R false))) := ⟨g_and⟩
theorem g_or {R : BK} (h : tt σ H (kIf (R true) (fun H1 => tu σ H1 R))) : tOr tt tu σ H R := h
instance i_or {R : BK} : St (tOr tt tu σ H R) (tt σ H (kIf (R true) (fun H1 => tu σ H1 R))) := ⟨g_or⟩
theorem g_not {R : BK} (h : tt σ H (kNo R)) : tNot tt σ H R := h
instance i_not {R : BK} : St (tNot tt σ H R) (tt σ H (kNo R)) := ⟨g_not⟩
theorem g_kNo {R : BK} {b : Bool} (h : R (!b) H) : kNo R b H := h
instance i_kNo {R : BK} {b : Bool} : St (kNo R b H) (R (!b) H) := ⟨g_kNo⟩
theorem g_ifE (h : tt σ H (kIf (fun H1 => te σ H1 Q) (fun H1 => tf σ H1 Q))) : tIf tt te tf σ H Q := h
instance i_ifE : St (tIf tt te tf σ H Q) (tt σ H (kIf (fun H1 => te σ H1 Q) (fun H1 => tf σ H1 Q))) := ⟨g_ifE⟩
def kNV (Q : VK) : VK := fun x H1 => ∃ c, x = .bl c ∧ Q (.bl (!c)) H1
def kIV (A B : Hp → Prop) : VK := fun x H1 => ∃ c, x = .bl c ∧ kIf A B c H1
theorem g_notV (h : te σ H (kNV Q)) : tNotV te σ H Q := h
instance i_notV : St (tNotV te σ H Q) (te σ H (kNV Q)) := ⟨g_notV⟩
theorem g_kNV {b : Bool} (h : Q (.bl (!b)) H) : kNV Q (.bl b) H := ⟨b, rfl, h⟩
instance i_kNV {b : Bool} : St (kNV Q (.bl b) H) (Q (.bl (!b)) H) := ⟨g_kNV⟩
theorem g_andV (h : te σ H (kIV (fun H1 => tf σ H1 Q) (fun H1 => Q (.bl false) H1))) : tAndV te tf σ H Q := h
instance i_andV : St (tAndV te tf σ H Q) (te σ H (kIV (fun H1 => tf σ H1 Q) (fun H1 => Q (.bl false) H1))) := ⟨g_andV⟩
theorem g_orV (h : te σ H (kIV (fun H1 => Q (.bl true) H1) (fun H1 => tf σ H1 Q))) : tOrV te tf σ H Q := h
instance i_orV : St (tOrV te tf σ H Q) (te σ H (kIV (fun H1 => Q (.bl true) H1) (fun H1 => tf σ H1 Q))) := ⟨g_orV⟩
theorem g_kIV {A B : Hp → Prop} {b : Bool} (h : kIf A B b H) : kIV A B (.bl b) H := ⟨b, rfl, h⟩
instance i_kIV {A B : Hp → Prop} {b : Bool} : St (kIV A B (.bl b) H) (kIf A B b H) := ⟨g_kIV⟩
theorem g_eq (s : scal x y = true) (h : Q (.bl (decide (x = y))) H) : rEq x y H Q := ⟨s, h⟩
theorem g_eqI (h : Q (.bl (decide (i = j))) H) : rEq (.int i) (.int j) H Q := ⟨rfl, by rw [show decide (V.int i = V.int j) = decide (i = j) by simp]; exact h⟩
instance i_eqI : St (rEq (.int i) (.int j) H Q) (Q (.bl (decide (i = j))) H) := ⟨g_eqI⟩
theorem g_neI (h : Q (.bl (!decide (i = j))) H) : rNe (.int i) (.int j) H Q := ⟨rfl, by rw [show decide (V.int i = V.int j) = decide (i = j) by simp]; exact h⟩
instance i_neI : St (rNe (.int i) (.int j) H Q) (Q (.bl (!decide (i = j))) H) := ⟨g_neI⟩
theorem g_eqS {a b : Str} (h : Q (.bl (decide (a = b))) H) : rEq (.str a) (.str b) H Q := ⟨rfl, by rw [show decide (V.str a = V.str b) = decide (a = b) by simp]; exact h⟩
instance i_eqS {a b : Str} : St (rEq (.str a) (.str b) H Q) (Q (.bl (decide (a = b))) H) := ⟨g_eqS⟩
theorem g_neS {a b : Str} (h : Q (.bl (!decide (a = b))) H) : rNe (.str a) (.str b) H Q := ⟨rfl, by rw [show decide (V.str a = V.str b) = decide (a = b) by simp]; exact h⟩
instance i_neS {a b : Str} : St (rNe (.str a) (.str b) H Q) (Q (.bl (!decide (a = b))) H) := ⟨g_neS⟩
theorem g_ixL {p : Addr} {xs : List V} (e : H p = some (.lst xs)) (a : atI xs i = some v) (h : Q v H) : rIxL K (.ref p) (.int i) H Q := ⟨p, xs, i, v, rfl, rfl, SqL.of e, a, h⟩
theorem g_ixT {p : Addr} {xs : List V} (e : H p = some (.tup xs)) (a : atI xs i = some v) (h : Q v H) : rIxT K (.ref p) (.int i) H Q := ⟨p, xs, i, v, rfl, rfl, SqT.of e, a, h⟩
def kHp (R : L2.St → Hp → Prop) (σ : L2.St) : Hp → Prop := fun H3 => R σ H3
def kS1 (ti : TE) (s : TSet) (v : V) (σ : L2.St) (R : L2.St → Hp → Prop) : VK := fun o H1 => ti σ H1 fun i H2 => s o i v H2 fun H3 => R σ H3
def kS2 (s : TSet) (o v : V) (σ : L2.St) (R : L2.St → Hp → Prop) : VK := fun i H2 => s o i v H2 (kHp R σ)
theorem g_sub {to ti : TE} {s : TSet} {R : L2.St → Hp → Prop} (h : to σ H (kS1 ti s v σ R)) : gSub to ti s v σ H R := h
instance i_sub {to ti : TE} {s : TSet} {R : L2.St → Hp → Prop} : St (gSub to ti s v σ H R) (to σ H (kS1 ti s v σ R)) := ⟨g_sub⟩
theorem g_kS1 {ti : TE} {s : TSet} {R : L2.St → Hp → Prop} (h : ti σ H (kS2 s x v σ R)) : kS1 ti s v σ R x H := h
instance i_kS1 {ti : TE} {s : TSet} {R : L2.St → Hp → Prop} : St (kS1 ti s v σ R x H) (ti σ H (kS2 s x v σ R)) := ⟨g_kS1⟩
theorem g_kS2 {s : TSet} {R : L2.St → Hp → Prop} (h : s x y v H (kHp R σ)) : kS2 s x v σ R y H := h
instance i_kS2 {s : TSet} {R : L2.St → Hp → Prop} : St (kS2 s x v σ R y H) (s x y v H (kHp R σ)) := ⟨g_kS2⟩
theorem g_kHp {R : L2.St → Hp → Prop} (h : R σ H) : kHp R σ H := h
instance i_kHp {R : L2.St → Hp → Prop} : St (kHp R σ H) (R σ H) := ⟨g_kHp⟩
theorem g_setL {p : Addr} {xs : List V} {n : Nat} {R : Hp → Prop} (e : H p = some (.lst xs)) (a : ixN xs.length i = some n) (h : R (upd H p (.lst (xs.set n v)))) : rSetL (.ref p) (.int i) v H R := ⟨p, xs, i, n, rfl, rfl, e, a, h⟩
theorem g_setL0 {p : Addr} {a : V} {r : List V} {R : Hp → Prop} (e : H p = some (.lst (a :: r))) (h : R (upd H p (.lst (v :: r)))) : rSetL (.ref p) (.int 0) v H R := g_setL e (n := 0) (ixN_of rfl (by simp)) h
theorem g_setL1 {p : Addr} {a b : V} {r : List V} {R : Hp → Prop} (e : H p = some (.lst (a :: b :: r))) (h : R (upd H p (.lst (a :: v :: r)))) : rSetL (.ref p) (.int 1) v H R := g_setL e (n := 1) (ixN_of rfl (by simp)) h
def kBM (K : PySem.W.Frag) (T : String) (r : V → List V → Hp → VK → Prop) (ta : TA) (σ : L2.St) (Q : VK) : VK := fun x H1 => tyV K T x H1 ∧ ta σ H1 fun xs H2 => r x xs H2 Q
def kBM2 (r : V → List V → Hp → VK → Prop) (x : V) (Q : VK) : LK := fun xs H2 => r x xs H2 Q
def kBM0 (K : PySem.W.Frag) (T : String) (r : V → List V → Hp → VK → Prop) (Q : VK) : VK := fun x H1 => tyV K T x H1 ∧ r x [] H1 Q
theorem g_bm {T : String} {r : V → List V → Hp → VK → Prop} (h : te σ H (kBM K T r ta σ Q)) : tBM K T r te ta σ H Q := h
instance i_bm {T : String} {r : V → List V → Hp → VK → Prop} : St (tBM K T r te ta σ H Q) (te σ H (kBM K T r ta σ Q)) := ⟨g_bm⟩
theorem g_bm0 {T : String} {r : V → List V → Hp → VK → Prop} (h : te σ H (kBM0 K T r Q)) : tBM0 K T r te σ H Q := h
instance i_bm0 {T : String} {r : V → List V → Hp → VK → Prop} : St (tBM0 K T r te σ H Q) (te σ H (kBM0 K T r Q)) := ⟨g_bm0⟩
theorem g_kBMl {r : V → List V → Hp → VK → Prop} {p : Addr} {xs : List V} (e : H p = some (.lst xs)) (h : ta σ H (kBM2 r (.ref p) Q)) : kBM K "list" r ta σ Q (.ref p) H := ⟨.inl ⟨rfl, xs, SqL.of e⟩, h⟩
theorem g_kBM0l {r : V → List V → Hp → VK → Prop} {p : Addr} {xs : List V} (e : H p = some (.lst xs)) (h : r (.ref p) [] H Q) : kBM0 K "list" r Q (.ref p) H := ⟨.inl ⟨rfl, xs, SqL.of e⟩, h⟩
theorem g_kBM2 {r : V → List V → Hp → VK → Prop} {xs : List V} (h : r x xs H Q) : kBM2 r x Q xs H := h
instance i_kBM2 {r : V → List V → Hp → VK → Prop} {xs : List V} : St (kBM2 r x Q xs H) (r x xs H Q) := ⟨g_kBM2⟩
theorem g_append {p : Addr} {xs : List V} (e : H p = some (.lst xs)) (s : xs.length < sizeLine) (h : Q .non (upd H p (.lst (xs ++ [y])))) : rAppend (.ref p) [y] H Q := ⟨p, xs, y, rfl, rfl, e, s, h⟩
theorem g_popAt {p : Addr} {xs : List V} {n : Nat} (e : H p = some (.lst xs)) (b : i = (n : Int)) (hn : xs[n]? = some y) (hz : xs.length ≤ 1000000) (h : Q y (upd H p (.lst (xs.eraseIdx n)))) : rPopAt (.ref p) [.int i] H Q := by
  have hl := (List.getElem?_eq_some_iff.mp hn).1
  refine ⟨p, xs, i, n, y, rfl, rfl, e, by omega, by omega, ?_, hn, h⟩
  subst b
  unfold seqIndex?
  have hn0 : ¬ (n : Int) < 0 := by omega
  simp [hl, hn0]
def rLn (K : PySem.W.Frag) : List V → Hp → VK → Prop := fun xs H Q => ∃ p ys, xs = [.ref p] ∧ (SqL K H p ys ∨ SqT K H p ys) ∧ Q (.int ys.length) H
theorem cr_len : CallR X (.builtin "len") (rLn X.K) := call_len_seq
theorem g_len {p : Addr} {xs : List V} (e : H p = some (.lst xs)) (h : Q (.int (xs.length : Int)) H) : rLn K [.ref p] H Q := ⟨p, xs, rfl, .inl (SqL.of e), h⟩
theorem g_lenT {p : Addr} {xs : List V} (e : H p = some (.tup xs)) (h : Q (.int (xs.length : Int)) H) : rLn K [.ref p] H Q := ⟨p, xs, rfl, .inr (SqT.of e), h⟩
def rLo (K : PySem.W.Frag) : List V → Hp → VK → Prop := fun xs H Q => ∃ p ys, xs = [.ref p] ∧ (SqL K H p ys ∨ SqT K H p ys) ∧ ∀ l, H l = none → Q (.ref l) (upd H l (.lst ys))
theorem cr_list : CallR X (.type "list") (rLo X.K) := call_list_of
theorem g_list {p : Addr} {xs : List V} (e : H p = some (.lst xs)) (h : ∀ l, H l = none → Q (.ref l) (upd H l (.lst xs))) : rLo K [.ref p] H Q := ⟨p, xs, rfl, .inl (SqL.of e), h⟩
def rIn1 : List V → Hp → VK → Prop := fun xs H Q => (∃ i, xs = [.int i] ∧ Q (.int i) H) ∨ ∃ k, xs = [.bl k] ∧ Q (.int (if k then 1 else 0)) H
theorem cr_int : CallR X (.type "int") rIn1 := call_int1
theorem g_int1 (h : Q (.int i) H) : rIn1 [.int i] H Q := .inl ⟨i, rfl, h⟩
instance i_int1 : St (rIn1 [.int i] H Q) (Q (.int i) H) := ⟨g_int1⟩
theorem g_intB {b : Bool} (h : Q (.int (if b then 1 else 0)) H) : rIn1 [.bl b] H Q := .inr ⟨b, rfl, h⟩
instance i_intB {b : Bool} : St (rIn1 [.bl b] H Q) (Q (.int (if b then 1 else 0)) H) := ⟨g_intB⟩
def rMn : List V → Hp → VK → Prop := fun xs H Q => ∃ i j, xs = [.int i, .int j] ∧ Q (.int (if j < i then j else i)) H
def rMx : List V → Hp → VK → Prop := fun xs H Q => ∃ i j, xs = [.int i, .int j] ∧ Q (.int (if j > i then j else i)) H
theorem cr_min2 (hc : X.calm = true) : CallR X (.builtin "min") rMn := call_min2 hc
theorem cr_max2 (hc : X.calm = true) : CallR X (.builtin "max") rMx := call_max2 hc
theorem g_min2 (h : Q (.int (if j < i then j else i)) H) : rMn [.int i, .int j] H Q := ⟨i, j, rfl, h⟩
instance i_min2 : St (rMn [.int i, .int j] H Q) (Q (.int (if j < i then j else i)) H) := ⟨g_min2⟩
theorem g_max2 (h : Q (.int (if j > i then j else i)) H) : rMx [.int i, .int j] H Q := ⟨i, j, rfl, h⟩
instance i_max2 : St (rMx [.int i, .int j] H Q) (Q (.int (if j > i then j else i)) H) := ⟨g_max2⟩
theorem g_neD {d e : PyData} (a : Dp K H x d) (b : Dp K H y e) (c : SeqAt.shaped d = true) (c' : SeqAt.shaped e = true) (h : Q (.bl (!PyData.eqv d e)) H) : rNeD K x y H Q := ⟨d, e, a, b, c, c', h⟩
theorem g_eqD {d e : PyData} (a : Dp K H x d) (b : Dp K H y e) (c : SeqAt.shaped d = true) (c' : SeqAt.shaped e = true) (h : Q (.bl (PyData.eqv d e)) H) : rEqD K x y H Q := ⟨d, e, a, b, c, c', h⟩
abbrev IK := Int → Int → Hp → Prop
def k1I (R : IK) : VK := fun x H1 => ∃ n, x = .int n ∧ R 0 n H1
def k2I (R : IK) (x : V) : VK := fun y H1 => ∃ i j, x = .int i ∧ y = .int j ∧ R i j H1
def k2J (R : IK) (tf : TE) (σ : L2.St) : VK := fun x H1 => tf σ H1 (k2I R x)
def kRg (Q : VK) : IK := fun a b H1 => RgOk a b ∧ ∀ q, H1 q = none → Q (.ref q) (upd H1 q (.lst (rgV a b)))
theorem g_inS {p : Addr} {xs : List V} (e : H p = some (.lst xs)) (f : flatV x = true) (a : xs.all flatV = true) (h : Q (.bl (inV x xs)) H) : rIn K false x (.ref p) H Q := ⟨p, xs, rfl, .inl (SqL.of e), f, a, h⟩
theorem g_niS {p : Addr} {xs : List V} (e : H p = some (.lst xs)) (f : flatV x = true) (a : xs.all flatV = true) (h : Q (.bl (!inV x xs)) H) : rIn K true x (.ref p) H Q := ⟨p, xs, rfl, .inl (SqL.of e), f, a, h⟩
theorem g_rg {ti : L2.St → Hp → IK → Prop} (h : ti σ H (kRg Q)) : tLstRg ti σ H Q := h
instance i_rg {ti : L2.St → Hp → IK → Prop} : St (tLstRg ti σ H Q) (ti σ H (kRg Q)) := ⟨g_rg⟩
theorem g_rg1 {R : IK} (h : te σ H (k1I R)) : tRg1 te σ H R := h
instance i_rg1 {R : IK} : St (tRg1 te σ H R) (te σ H (k1I R)) := ⟨g_rg1⟩
theorem g_rg2 {R : IK} (h : te σ H (k2J R tf σ)) : tRg2 te tf σ H R := h
instance i_rg2 {R : IK} : St (tRg2 te tf σ H R) (te σ H (k2J R tf σ)) := ⟨g_rg2⟩
theorem g_k1I {R : IK} (h : R 0 i H) : k1I R (.int i) H := ⟨i, rfl, h⟩
instance i_k1I {R : IK} : St (k1I R (.int i) H) (R 0 i H) := ⟨g_k1I⟩
theorem g_k2I {R : IK} (h : R i j H) : k2I R (.int i) (.int j) H := ⟨i, j, rfl, rfl, h⟩
instance i_k2I {R : IK} : St (k2I R (.int i) (.int j) H) (R i j H) := ⟨g_k2I⟩
theorem g_k2J {R : IK} (h : tf σ H (k2I R x)) : k2J R tf σ x H := h
instance i_k2J {R : IK} : St (k2J R tf σ x H) (tf σ H (k2I R x)) := ⟨g_k2J⟩
theorem g_kRg (h1 : -(2 ^ 20) ≤ i ∧ i < 2 ^ 20 ∧ j < 2 ^ 20 ∧ -(2 ^ 20) ≤ j) (h : ∀ q, H q = none → Q (.ref q) (upd H q (.lst (rgV i j)))) : kRg Q i j H := ⟨⟨by omega, by omega, by omega, by omega, by omega⟩, h⟩
theorem g_while {tb : TS} (Pv : L2.St → Hp → Prop) (μ : L2.St → Hp → Nat) (h0 : Pv σ H)
    (hs : ∀ σ H, Pv σ H → tt σ H (kIf (fun H1 => tb ⟨fun σ' H' => Pv σ' H' ∧ μ σ' H' < μ σ H, D.rt, D.nx, fun σ' H' => Pv σ' H' ∧ μ σ' H' < μ σ H⟩ σ H1) (D.nx σ)))
    (mono : ∀ σ H Q Q', (∀ b H1, Q b H1 → Q' b H1) → tt σ H Q → tt σ H Q') : tWhile tt tb D σ H := while_by Pv μ h0 hs mono
abbrev JK := It → Hp → Prop
def kIL (K : PySem.W.Frag) (R : JK) : VK := fun x H1 => ∃ a, x = .ref a ∧ (∃ xs, SqL K H1 a xs) ∧ R (Itl K a) H1
theorem g_iL {R : JK} (h : te σ H (kIL K R)) : iList K te σ H R := h
instance i_iL {R : JK} : St (iList K te σ H R) (te σ H (kIL K R)) := ⟨g_iL⟩
theorem g_kIL {R : JK} {p : Addr} {xs : List V} (e : H p = some (.lst xs)) (h : R (Itl K p) H) : kIL K R (.ref p) H := ⟨p, rfl, ⟨xs, SqL.of e⟩, h⟩
theorem g_kILf {R : JK} {p : Addr} {xs : List V} (e : SqL K H p xs) (h : R (Itl K p) H) : kIL K R (.ref p) H := ⟨p, rfl, ⟨xs, e⟩, h⟩
def kIR1 (R : JK) : LK := fun vs H1 => ∃ j : Int, vs = [.int j] ∧ -(2 ^ 62) ≤ j ∧ j < 2 ^ 62 ∧ R (Itr 0 j.toNat) H1
def kIR2 (R : JK) : LK := fun vs H1 => ∃ i j : Int, vs = [.int i, .int j] ∧ (-(2 ^ 62) ≤ i ∧ i < 2 ^ 62 ∧ -(2 ^ 62) ≤ j ∧ j < 2 ^ 62) ∧ R (Itr i (j - i).toNat) H1
theorem g_iR1 {R : JK} (h : ta σ H (kIR1 R)) : iRng1 ta σ H R := h
instance i_iR1 {R : JK} : St (iRng1 ta σ H R) (ta σ H (kIR1 R)) := ⟨g_iR1⟩
theorem g_iR2 {R : JK} (h : ta σ H (kIR2 R)) : iRng2 ta σ H R := h
instance i_iR2 {R : JK} : St (iRng2 ta σ H R) (ta σ H (kIR2 R)) := ⟨g_iR2⟩
theorem g_kIR1 {R : JK} (h1 : -(2 ^ 62) ≤ j ∧ j < 2 ^ 62) (h : R (Itr 0 j.toNat) H) : kIR1 R [.int j] H := ⟨j, rfl, h1.1, h1.2, h⟩
theorem g_kIR2 {R : JK} (h1 : -(2 ^ 62) ≤ i ∧ i < 2 ^ 62 ∧ -(2 ^ 62) ≤ j ∧ j < 2 ^ 62) (h : R (Itr i (j - i).toNat) H) : kIR2 R [.int i, .int j] H := ⟨i, j, rfl, h1, h⟩
def kFor (g : TG) (tb : TS) (D : Ends) (σ : L2.St) : JK := fun J H1 => ∃ W : Nat → Nat → L2.St → Hp → Prop, (∃ m, W 0 m σ H1) ∧ ∀ i m σ H, W i m σ H →
  (J.stop i H ∧ D.nx σ H) ∨ (J.go i H ∧ ∃ N : L2.St → Hp → Prop, (∀ σ' H', N σ' H' → ∃ m', m' < m ∧ W (i + 1) m' σ' H') ∧ ∀ x H', J.yld i H x H' → g x σ H' fun σ2 H2 => tb { D with nx := N, ct := N, bk := D.nx } σ2 H2)
theorem g_for {wi : TI} {tb : TS} (h : wi σ H (kFor g tb D σ)) : tFor wi g tb D σ H := h
instance i_for {wi : TI} {tb : TS} : St (tFor wi g tb D σ H) (wi σ H (kFor g tb D σ)) := ⟨g_for⟩
theorem g_forL {tb : TS} {p : Addr} {xs : List V} (Pv : Nat → L2.St → Hp → Prop) (h0 : Pv 0 σ H) (hl : ∀ i σ H, i ≤ xs.length → Pv i σ H → SqL K H p xs)
    (hs : ∀ i x σ H, xs[i]? = some x → Pv i σ H → g x σ H (tb ⟨Pv (i + 1), D.rt, D.nx, Pv (i + 1)⟩)) (hd : ∀ σ H, Pv xs.length σ H → D.nx σ H) : kFor g tb D σ (Itl K p) H := for_list Pv h0 hl hs hd
theorem g_forR {tb : TS} {lo : Int} {n : Nat} (Pv : Nat → L2.St → Hp → Prop) (h0 : Pv 0 σ H)
    (hs : ∀ i σ H, i < n → Pv i σ H → g (.int (lo + i)) σ H (tb ⟨Pv (i + 1), D.rt, D.nx, Pv (i + 1)⟩)) (hd : ∀ σ H, Pv n σ H → D.nx σ H) : kFor g tb D σ (Itr lo n) H := for_range Pv h0 hs hd
/-- a power of whole numbers of any size, within 2 ^ 27 bits -/
theorem op_powG : OpR X (binaryOp .Pow) (rI (fun i j => 0 ≤ j ∧ (Builtin.Int.intBits i : Int) * j ≤ 2 ^ 27) fun i j => .int (i ^ j.toNat)) := opI fun _ _ _ _ _ _ _ hc q => PyProof.Rows.pow_int hc.1 hc.2 q
theorem g_name0 {R : L2.St → Hp → Prop} {b : Option V} {r : L2.St} (h : R (some v :: r) H) : gName 0 v (b :: r) H R := h
instance i_name0 {R : L2.St → Hp → Prop} {b : Option V} {r : L2.St} : St (gName 0 v (b :: r) H R) (R (some v :: r) H) := ⟨g_name0⟩
theorem g_var0 {r : L2.St} (h : Q v H) : tVar 0 (some v :: r) H Q := ⟨v, rfl, h⟩
instance i_var0 {r : L2.St} : St (tVar 0 (some v :: r) H Q) (Q v H) := ⟨g_var0⟩
theorem g_name1 {R : L2.St → Hp → Prop} {a0 : Option V} {b : Option V} {r : L2.St} (h : R (a0 :: some v :: r) H) : gName 1 v (a0 :: b :: r) H R := h
instance i_name1 {R : L2.St → Hp → Prop} {a0 : Option V} {b : Option V} {r : L2.St} : St (gName 1 v (a0 :: b :: r) H R) (R (a0 :: some v :: r) H) := ⟨g_name1⟩
theorem g_var1 {a0 : Option V} {r : L2.St} (h : Q v H) : tVar 1 (a0 :: some v :: r) H Q := ⟨v, rfl, h⟩
instance i_var1 {a0 : Option V} {r : L2.St} : St (tVar 1 (a0 :: some v :: r) H Q) (Q v H) := ⟨g_var1⟩
theorem g_name2 {R : L2.St → Hp → Prop} {a0 a1 : Option V} {b : Option V} {r : L2.St} (h : R (a0 :: a1 :: some v :: r) H) : gName 2 v (a0 :: a1 :: b :: r) H R := h
instance i_name2 {R : L2.St → Hp → Prop} {a0 a1 : Option V} {b : Option V} {r : L2.St} : St (gName 2 v (a0 :: a1 :: b :: r) H R) (R (a0 :: a1 :: some v :: r) H) := ⟨g_name2⟩
theorem g_var2 {a0 a1 : Option V} {r : L2.St} (h : Q v H) : tVar 2 (a0 :: a1 :: some v :: r) H Q := ⟨v, rfl, h⟩
instance i_var2 {a0 a1 : Option V} {r : L2.St} : St (tVar 2 (a0 :: a1 :: some v :: r) H Q) (Q v H) := ⟨g_var2⟩
theorem g_name3 {R : L2.St → Hp → Prop} {a0 a1 a2 : Option V} {b : Option V} {r : L2.St} (h : R (a0 :: a1 :: a2 :: some v :: r) H) : gName 3 v (a0 :: a1 :: a2 :: b :: r) H R := h
instance i_name3 {R : L2.St → Hp → Prop} {a0 a1 a2 : Option V} {b : Option V} {r : L2.St} : St (gName 3 v (a0 :: a1 :: a2 :: b :: r) H R) (R (a0 :: a1 :: a2 :: some v :: r) H) := ⟨g_name3⟩
theorem g_var3 {a0 a1 a2 : Option V} {r : L2.St} (h : Q v H) : tVar 3 (a0 :: a1 :: a2 :: some v :: r) H Q := ⟨v, rfl, h⟩
instance i_var3 {a0 a1 a2 : Option V} {r : L2.St} : St (tVar 3 (a0 :: a1 :: a2 :: some v :: r) H Q) (Q v H) := ⟨g_var3⟩
theorem g_name4 {R : L2.St → Hp → Prop} {a0 a1 a2 a3 : Option V} {b : Option V} {r : L2.St} (h : R (a0 :: a1 :: a2 :: a3 :: some v :: r) H) : gName 4 v (a0 :: a1 :: a2 :: a3 :: b :: r) H R := h
instance i_name4 {R : L2.St → Hp → Prop} {a0 a1 a2 a3 : Option V} {b : Option V} {r : L2.St} : St (gName 4 v (a0 :: a1 :: a2 :: a3 :: b :: r) H R) (R (a0 :: a1 :: a2 :: a3 :: some v :: r) H) := ⟨g_name4⟩
theorem g_var4 {a0 a1 a2 a3 : Option V} {r : L2.St} (h : Q v H) : tVar 4 (a0 :: a1 :: a2 :: a3 :: some v :: r) H Q := ⟨v, rfl, h⟩
instance i_var4 {a0 a1 a2 a3 : Option V} {r : L2.St} : St (tVar 4 (a0 :: a1 :: a2 :: a3 :: some v :: r) H Q) (Q v H) := ⟨g_var4⟩
theorem g_name5 {R : L2.St → Hp → Prop} {a0 a1 a2 a3 a4 : Option V} {b : Option V} {r : L2.St} (h : R (a0 :: a1 :: a2 :: a3 :: a4 :: some v :: r) H) : gName 5 v (a0 :: a1 :: a2 :: a3 :: a4 :: b :: r) H R := h
instance i_name5 {R : L2.St → Hp → Prop} {a0 a1 a2 a3 a4 : Option V} {b : Option V} {r : L2.St} : St (gName 5 v (a0 :: a1 :: a2 :: a3 :: a4 :: b :: r) H R) (R (a0 :: a1 :: a2 :: a3 :: a4 :: some v :: r) H) := ⟨g_name5⟩
theorem g_var5 {a0 a1 a2 a3 a4 : Option V} {r : L2.St} (h : Q v H) : tVar 5 (a0 :: a1 :: a2 :: a3 :: a4 :: some v :: r) H Q := ⟨v, rfl, h⟩
instance i_var5 {a0 a1 a2 a3 a4 : Option V} {r : L2.St} : St (tVar 5 (a0 :: a1 :: a2 :: a3 :: a4 :: some v :: r) H Q) (Q v H) := ⟨g_var5⟩
theorem g_name6 {R : L2.St → Hp → Prop} {a0 a1 a2 a3 a4 a5 : Option V} {b : Option V} {r : L2.St} (h : R (a0 :: a1 :: a2 :: a3 :: a4 :: a5 :: some v :: r) H) : gName 6 v (a0 :: a1 :: a2 :: a3 :: a4 :: a5 :: b :: r) H R := h
instance i_name6 {R : L2.St → Hp → Prop} {a0 a1 a2 a3 a4 a5 : Option V} {b : Option V} {r : L2.St} : St (gName 6 v (a0 :: a1 :: a2 :: a3 :: a4 :: a5 :: b :: r) H R) (R (a0 :: a1 :: a2 :: a3 :: a4 :: a5 :: some v :: r) H) := ⟨g_name6⟩
theorem g_var6 {a0 a1 a2 a3 a4 a5 : Option V} {r : L2.St} (h : Q v H) : tVar 6 (a0 :: a1 :: a2 :: a3 :: a4 :: a5 :: some v :: r) H Q := ⟨v, rfl, h⟩
instance i_var6 {a0 a1 a2 a3 a4 a5 : Option V} {r : L2.St} : St (tVar 6 (a0 :: a1 :: a2 :: a3 :: a4 :: a5 :: some v :: r) H Q) (Q v H) := ⟨g_var6⟩
theorem g_name7 {R : L2.St → Hp → Prop} {a0 a1 a2 a3 a4 a5 a6 : Option V} {b : Option V} {r : L2.St} (h : R (a0 :: a1 :: a2 :: a3 :: a4 :: a5 :: a6 :: some v :: r) H) : gName 7 v (a0 :: a1 :: a2 :: a3 :: a4 :: a5 :: a6 :: b :: r) H R := h
instance i_name7 {R : L2.St → Hp → Prop} {a0 a1 a2 a3 a4 a5 a6 : Option V} {b : Option V} {r : L2.St} : St (gName 7 v (a0 :: a1 :: a2 :: a3 :: a4 :: a5 :: a6 :: b :: r) H R) (R (a0 :: a1 :: a2 :: a3 :: a4 :: a5 :: a6 :: some v :: r) H) := ⟨g_name7⟩
theorem g_var7 {a0 a1 a2 a3 a4 a5 a6 : Option V} {r : L2.St} (h : Q v H) : tVar 7 (a0 :: a1 :: a2 :: a3 :: a4 :: a5 :: a6 :: some v :: r) H Q := ⟨v, rfl, h⟩
instance i_var7 {a0 a1 a2 a3 a4 a5 a6 : Option V} {r : L2.St} : St (tVar 7 (a0 :: a1 :: a2 :: a3 :: a4 :: a5 :: a6 :: some v :: r) H Q) (Q v H) := ⟨g_var7⟩
theorem g_name8 {R : L2.St → Hp → Prop} {a0 a1 a2 a3 a4 a5 a6 a7 : Option V} {b : Option V} {r : L2.St} (h : R (a0 :: a1 :: a2 :: a3 :: a4 :: a5 :: a6 :: a7 :: some v :: r) H) : gName 8 v (a0 :: a1 :: a2 :: a3 :: a4 :: a5 :: a6 :: a7 :: b :: r) H R := h
instance i_name8 {R : L2.St → Hp → Prop} {a0 a1 a2 a3 a4 a5 a6 a7 : Option V} {b : Option V} {r : L2.St} : St (gName 8 v (a0 :: a1 :: a2 :: a3 :: a4 :: a5 :: a6 :: a7 :: b :: r) H R) (R (a0 :: a1 :: a2 :: a3 :: a4 :: a5 :: a6 :: a7 :: some v :: r) H) := ⟨g_name8⟩
theorem g_var8 {a0 a1 a2 a3 a4 a5 a6 a7 : Option V} {r : L2.St} (h : Q v H) : tVar 8 (a0 :: a1 :: a2 :: a3 :: a4 :: a5 :: a6 :: a7 :: some v :: r) H Q := ⟨v, rfl, h⟩
instance i_var8 {a0 a1 a2 a3 a4 a5 a6 a7 : Option V} {r : L2.St} : St (tVar 8 (a0 :: a1 :: a2 :: a3 :: a4 :: a5 :: a6 :: a7 :: some v :: r) H Q) (Q v H) := ⟨g_var8⟩
theorem g_name9 {R : L2.St → Hp → Prop} {a0 a1 a2 a3 a4 a5 a6 a7 a8 : Option V} {b : Option V} {r : L2.St} (h : R (a0 :: a1 :: a2 :: a3 :: a4 :: a5 :: a6 :: a7 :: a8 :: some v :: r) H) : gName 9 v (a0 :: a1 :: a2 :: a3 :: a4 :: a5 :: a6 :: a7 :: a8 :: b :: r) H R := h
instance i_name9 {R : L2.St → Hp → Prop} {a0 a1 a2 a3 a4 a5 a6 a7 a8 : Option V} {b : Option V} {r : L2.St} : St (gName 9 v (a0 :: a1 :: a2 :: a3 :: a4 :: a5 :: a6 :: a7 :: a8 :: b :: r) H R) (R (a0 :: a1 :: a2 :: a3 :: a4 :: a5 :: a6 :: a7 :: a8 :: some v :: r) H) := ⟨g_name9⟩
theorem g_var9 {a0 a1 a2 a3 a4 a5 a6 a7 a8 : Option V} {r : L2.St} (h : Q v H) : tVar 9 (a0 :: a1 :: a2 :: a3 :: a4 :: a5 :: a6 :: a7 :: a8 :: some v :: r) H Q := ⟨v, rfl, h⟩
instance i_var9 {a0 a1 a2 a3 a4 a5 a6 a7 a8 : Option V} {r : L2.St} : St (tVar 9 (a0 :: a1 :: a2 :: a3 :: a4 :: a5 :: a6 :: a7 :: a8 :: some v :: r) H Q) (Q v H) := ⟨g_var9⟩
theorem g_name10 {R : L2.St → Hp → Prop} {a0 a1 a2 a3 a4 a5 a6 a7 a8 a9 : Option V} {b : Option V} {r : L2.St} (h : R (a0 :: a1 :: a2 :: a3 :: a4 :: a5 :: a6 :: a7 :: a8 :: a9 :: some v :: r) H) : gName 10 v (a0 :: a1 :: a2 :: a3 :: a4 :: a5 :: a6 :: a7 :: a8 :: a9 :: b :: r) H R := h
instance i_name10 {R : L2.St → Hp → Prop} {a0 a1 a2 a3 a4 a5 a6 a7 a8 a9 : Option V} {b : Option V} {r : L2.St} : St (gName 10 v (a0 :: a1 :: a2 :: a3 :: a4 :: a5 :: a6 :: a7 :: a8 :: a9 :: b :: r) H R) (R (a0 :: a1 :: a2 :: a3 :: a4 :: a5 :: a6 :: a7 :: a8 :: a9 :: some v :: r) H) := ⟨g_name10⟩
theorem g_var10 {a0 a1 a2 a3 a4 a5 a6 a7 a8 a9 : Option V} {r : L2.St} (h : Q v H) : tVar 10 (a0 :: a1 :: a2 :: a3 :: a4 :: a5 :: a6 :: a7 :: a8 :: a9 :: some v :: r) H Q := ⟨v, rfl, h⟩
instance i_var10 {a0 a1 a2 a3 a4 a5 a6 a7 a8 a9 : Option V} {r : L2.St} : St (tVar 10 (a0 :: a1 :: a2 :: a3 :: a4 :: a5 :: a6 :: a7 :: a8 :: a9 :: some v :: r) H Q) (Q v H) := ⟨g_var10⟩
theorem g_name11 {R : L2.St → Hp → Prop} {a0 a1 a2 a3 a4 a5 a6 a7 a8 a9 a10 : Option V} {b : Option V} {r : L2.St} (h : R (a0 :: a1 :: a2 :: a3 :: a4 :: a5 :: a6 :: a7 :: a8 :: a9 :: a10 :: some v :: r) H) : gName 11 v (a0 :: a1 :: a2 :: a3 :: a4 :: a5 :: a6 :: a7 :: a8 :: a9 :: a10 :: b :: r) H R := h
instance i_name11 {R : L2.St → Hp → Prop} {a0 a1 a2 a3 a4 a5 a6 a7 a8 a9 a10 : Option V} {b : Option V} {r : L2.St} : St (gName 11 v (a0 :: a1 :: a2 :: a3 :: a4 :: a5 :: a6 :: a7 :: a8 :: a9 :: a10 :: b :: r) H R) (R (a0 :: a1 :: a2 :: a3 :: a4 :: a5 :: a6 :: a7 :: a8 :: a9 :: a10 :: some v :: r) H) := ⟨g_name11⟩
theorem g_var11 {a0 a1 a2 a3 a4 a5 a6 a7 a8 a9 a10 : Option V} {r : L2.St} (h : Q v H) : tVar 11 (a0 :: a1 :: a2 :: a3 :: a4 :: a5 :: a6 :: a7 :: a8 :: a9 :: a10 :: some v :: r) H Q := ⟨v, rfl, h⟩
instance i_var11 {a0 a1 a2 a3 a4 a5 a6 a7 a8 a9 a10 : Option V} {r : L2.St} : St (tVar 11 (a0 :: a1 :: a2 :: a3 :: a4 :: a5 :: a6 :: a7 :: a8 :: a9 :: a10 :: some v :: r) H Q) (Q v H) := ⟨g_var11⟩
theorem g_name12 {R : L2.St → Hp → Prop} {a0 a1 a2 a3 a4 a5 a6 a7 a8 a9 a10 a11 : Option V} {b : Option V} {r : L2.St} (h : R (a0 :: a1 :: a2 :: a3 :: a4 :: a5 :: a6 :: a7 :: a8 :: a9 :: a10 :: a11 :: some v :: r) H) : gName 12 v (a0 :: a1 :: a2 :: a3 :: a4 :: a5 :: a6 :: a7 :: a8 :: a9 :: a10 :: a11 :: b :: r) H R := h
instance i_name12 {R : L2.St → Hp → Prop} {a0 a1 a2 a3 a4 a5 a6 a7 a8 a9 a10 a11 : Option V} {b : Option V} {r : L2.St} : St (gName 12 v (a0 :: a1 :: a2 :: a3 :: a4 :: a5 :: a6 :: a7 :: a8 :: a9 :: a10 :: a11 :: b :: r) H R) (R (a0 :: a1 :: a2 :: a3 :: a4 :: a5 :: a6 :: a7 :: a8 :: a9 :: a10 :: a11 :: some v :: r) H) := ⟨g_name12⟩
theorem g_var12 {a0 a1 a2 a3 a4 a5 a6 a7 a8 a9 a10 a11 : Option V} {r : L2.St} (h : Q v H) : tVar 12 (a0 :: a1 :: a2 :: a3 :: a4 :: a5 :: a6 :: a7 :: a8 :: a9 :: a10 :: a11 :: some v :: r) H Q := ⟨v, rfl, h⟩
instance i_var12 {a0 a1 a2 a3 a4 a5 a6 a7 a8 a9 a10 a11 : Option V} {r : L2.St} : St (tVar 12 (a0 :: a1 :: a2 :: a3 :: a4 :: a5 :: a6 :: a7 :: a8 :: a9 :: a10 :: a11 :: some v :: r) H Q) (Q v H) := ⟨g_var12⟩
theorem g_name13 {R : L2.St → Hp → Prop} {a0 a1 a2 a3 a4 a5 a6 a7 a8 a9 a10 a11 a12 : Option V} {b : Option V} {r : L2.St} (h : R (a0 :: a1 :: a2 :: a3 :: a4 :: a5 :: a6 :: a7 :: a8 :: a9 :: a10 :: a11 :: a12 :: some v :: r) H) : gName 13 v (a0 :: a1 :: a2 :: a3 :: a4 :: a5 :: a6 :: a7 :: a8 :: a9 :: a10 :: a11 :: a12 :: b :: r) H R := h
instance i_name13 {R : L2.St → Hp → Prop} {a0 a1 a2 a3 a4 a5 a6 a7 a8 a9 a10 a11 a12 : Option V} {b : Option V} {r : L2.St} : St (gName 13 v (a0 :: a1 :: a2 :: a3 :: a4 :: a5 :: a6 :: a7 :: a8 :: a9 :: a10 :: a11 :: a12 :: b :: r) H R) (R (a0 :: a1 :: a2 :: a3 :: a4 :: a5 :: a6 :: a7 :: a8 :: a9 :: a10 :: a11 :: a12 :: some v :: r) H) := ⟨g_name13⟩
theorem g_var13 {a0 a1 a2 a3 a4 a5 a6 a7 a8 a9 a10 a11 a12 : Option V} {r : L2.St} (h : Q v H) : tVar 13 (a0 :: a1 :: a2 :: a3 :: a4 :: a5 :: a6 :: a7 :: a8 :: a9 :: a10 :: a11 :: a12 :: some v :: r) H Q := ⟨v, rfl, h⟩
instance i_var13 {a0 a1 a2 a3 a4 a5 a6 a7 a8 a9 a10 a11 a12 : Option V} {r : L2.St} : St (tVar 13 (a0 :: a1 :: a2 :: a3 :: a4 :: a5 :: a6 :: a7 :: a8 :: a9 :: a10 :: a11 :: a12 :: some v :: r) H Q) (Q v H) := ⟨g_var13⟩
theorem g_name14 {R : L2.St → Hp → Prop} {a0 a1 a2 a3 a4 a5 a6 a7 a8 a9 a10 a11 a12 a13 : Option V} {b : Option V} {r : L2.St} (h : R (a0 :: a1 :: a2 :: a3 :: a4 :: a5 :: a6 :: a7 :: a8 :: a9 :: a10 :: a11 :: a12 :: a13 :: some v :: r) H) : gName 14 v (a0 :: a1 :: a2 :: a3 :: a4 :: a5 :: a6 :: a7 :: a8 :: a9 :: a10 :: a11 :: a12 :: a13 :: b :: r) H R := h
instance i_name14 {R : L2.St → Hp → Prop} {a0 a1 a2 a3 a4 a5 a6 a7 a8 a9 a10 a11 a12 a13 : Option V} {b : Option V} {r : L2.St} : St (gName 14 v (a0 :: a1 :: a2 :: a3 :: a4 :: a5 :: a6 :: a7 :: a8 :: a9 :: a10 :: a11 :: a12 :: a13 :: b :: r) H R) (R (a0 :: a1 :: a2 :: a3 :: a4 :: a5 :: a6 :: a7 :: a8 :: a9 :: a10 :: a11 :: a12 :: a13 :: some v :: r) H) := ⟨g_name14⟩
theorem g_var14 {a0 a1 a2 a3 a4 a5 a6 a7 a8 a9 a10 a11 a12 a13 : Option V} {r : L2.St} (h : Q v H) : tVar 14 (a0 :: a1 :: a2 :: a3 :: a4 :: a5 :: a6 :: a7 :: a8 :: a9 :: a10 :: a11 :: a12 :: a13 :: some v :: r) H Q := ⟨v, rfl, h⟩
instance i_var14 {a0 a1 a2 a3 a4 a5 a6 a7 a8 a9 a10 a11 a12 a13 : Option V} {r : L2.St} : St (tVar 14 (a0 :: a1 :: a2 :: a3 :: a4 :: a5 :: a6 :: a7 :: a8 :: a9 :: a10 :: a11 :: a12 :: a13 :: some v :: r) H Q) (Q v H) := ⟨g_var14⟩
theorem g_name15 {R : L2.St → Hp → Prop} {a0 a1 a2 a3 a4 a5 a6 a7 a8 a9 a10 a11 a12 a13 a14 : Option V} {b : Option V} {r : L2.St} (h : R (a0 :: a1 :: a2 :: a3 :: a4 :: a5 :: a6 :: a7 :: a8 :: a9 :: a10 :: a11 :: a12 :: a13 :: a14 :: some v :: r) H) : gName 15 v (a0 :: a1 :: a2 :: a3 :: a4 :: a5 :: a6 :: a7 :: a8 :: a9 :: a10 :: a11 :: a12 :: a13 :: a14 :: b :: r) H R := h
instance i_name15 {R : L2.St → Hp → Prop} {a0 a1 a2 a3 a4 a5 a6 a7 a8 a9 a10 a11 a12 a13 a14 : Option V} {b : Option V} {r : L2.St} : St (gName 15 v (a0 :: a1 :: a2 :: a3 :: a4 :: a5 :: a6 :: a7 :: a8 :: a9 :: a10 :: a11 :: a12 :: a13 :: a14 :: b :: r) H R) (R (a0 :: a1 :: a2 :: a3 :: a4 :: a5 :: a6 :: a7 :: a8 :: a9 :: a10 :: a11 :: a12 :: a13 :: a14 :: some v :: r) H) := ⟨g_name15⟩
theorem g_var15 {a0 a1 a2 a3 a4 a5 a6 a7 a8 a9 a10 a11 a12 a13 a14 : Option V} {r : L2.St} (h : Q v H) : tVar 15 (a0 :: a1 :: a2 :: a3 :: a4 :: a5 :: a6 :: a7 :: a8 :: a9 :: a10 :: a11 :: a12 :: a13 :: a14 :: some v :: r) H Q := ⟨v, rfl, h⟩
instance i_var15 {a0 a1 a2 a3 a4 a5 a6 a7 a8 a9 a10 a11 a12 a13 a14 : Option V} {r : L2.St} : St (tVar 15 (a0 :: a1 :: a2 :: a3 :: a4 :: a5 :: a6 :: a7 :: a8 :: a9 :: a10 :: a11 :: a12 :: a13 :: a14 :: some v :: r) H Q) (Q v H) := ⟨g_var15⟩
theorem g_name16 {R : L2.St → Hp → Prop} {a0 a1 a2 a3 a4 a5 a6 a7 a8 a9 a10 a11 a12 a13 a14 a15 : Option V} {b : Option V} {r : L2.St} (h : R (a0 :: a1 :: a2 :: a3 :: a4 :: a5 :: a6 :: a7 :: a8 :: a9 :: a10 :: a11 :: a12 :: a13 :: a14 :: a15 :: some v :: r) H) : gName 16 v (a0 :: a1 :: a2 :: a3 :: a4 :: a5 :: a6 :: a7 :: a8 :: a9 :: a10 :: a11 :: a12 :: a13 :: a14 :: a15 :: b :: r) H R := h
instance i_name16 {R : L2.St → Hp → Prop} {a0 a1 a2 a3 a4 a5 a6 a7 a8 a9 a10 a11 a12 a13 a14 a15 : Option V} {b : Option V} {r : L2.St} : St (gName 16 v (a0 :: a1 :: a2 :: a3 :: a4 :: a5 :: a6 :: a7 :: a8 :: a9 :: a10 :: a11 :: a12 :: a13 :: a14 :: a15 :: b :: r) H R) (R (a0 :: a1 :: a2 :: a3 :: a4 :: a5 :: a6 :: a7 :: a8 :: a9 :: a10 :: a11 :: a12 :: a13 :: a14 :: a15 :: some v :: r) H) := ⟨g_name16⟩
theorem g_var16 {a0 a1 a2 a3 a4 a5 a6 a7 a8 a9 a10 a11 a12 a13 a14 a15 : Option V} {r : L2.St} (h : Q v H) : tVar 16 (a0 :: a1 :: a2 :: a3 :: a4 :: a5 :: a6 :: a7 :: a8 :: a9 :: a10 :: a11 :: a12 :: a13 :: a14 :: a15 :: some v :: r) H Q := ⟨v, rfl, h⟩
instance i_var16 {a0 a1 a2 a3 a4 a5 a6 a7 a8 a9 a10 a11 a12 a13 a14 a15 : Option V} {r : L2.St} : St (tVar 16 (a0 :: a1 :: a2 :: a3 :: a4 :: a5 :: a6 :: a7 :: a8 :: a9 :: a10 :: a11 :: a12 :: a13 :: a14 :: a15 :: some v :: r) H Q) (Q v H) := ⟨g_var16⟩
theorem g_name17 {R : L2.St → Hp → Prop} {a0 a1 a2 a3 a4 a5 a6 a7 a8 a9 a10 a11 a12 a13 a14 a15 a16 : Option V} {b : Option V} {r : L2.St} (h : R (a0 :: a1 :: a2 :: a3 :: a4 :: a5 :: a6 :: a7 :: a8 :: a9 :: a10 :: a11 :: a12 :: a13 :: a14 :: a15 :: a16 :: some v :: r) H) : gName 17 v (a0 :: a1 :: a2 :: a3 :: a4 :: a5 :: a6 :: a7 :: a8 :: a9 :: a10 :: a11 :: a12 :: a13 :: a14 :: a15 :: a16 :: b :: r) H R := h
instance i_name17 {R : L2.St → Hp → Prop} {a0 a1 a2 a3 a4 a5 a6 a7 a8 a9 a10 a11 a12 a13 a14 a15 a16 : Option V} {b : Option V} {r : L2.St} : St (gName 17 v (a0 :: a1 :: a2 :: a3 :: a4 :: a5 :: a6 :: a7 :: a8 :: a9 :: a10 :: a11 :: a12 :: a13 :: a14 :: a15 :: a16 :: b :: r) H R) (R (a0 :: a1 :: a2 :: a3 :: a4 :: a5 :: a6 :: a7 :: a8 :: a9 :: a10 :: a11 :: a12 :: a13 :: a14 :: a15 :: a16 :: some v :: r) H) := ⟨g_name17⟩
theorem g_var17 {a0 a1 a2 a3 a4 a5 a6 a7 a8 a9 a10 a11 a12 a13 a14 a15 a16 : Option V} {r : L2.St} (h : Q v H) : tVar 17 (a0 :: a1 :: a2 :: a3 :: a4 :: a5 :: a6 :: a7 :: a8 :: a9 :: a10 :: a11 :: a12 :: a13 :: a14 :: a15 :: a16 :: some v :: r) H Q := ⟨v, rfl, h⟩
instance i_var17 {a0 a1 a2 a3 a4 a5 a6 a7 a8 a9 a10 a11 a12 a13 a14 a15 a16 : Option V} {r : L2.St} : St (tVar 17 (a0 :: a1 :: a2 :: a3 :: a4 :: a5 :: a6 :: a7 :: a8 :: a9 :: a10 :: a11 :: a12 :: a13 :: a14 :: a15 :: a16 :: some v :: r) H Q) (Q v H) := ⟨g_var17⟩
theorem g_name18 {R : L2.St → Hp → Prop} {a0 a1 a2 a3 a4 a5 a6 a7 a8 a9 a10 a11 a12 a13 a14 a15 a16 a17 : Option V} {b : Option V} {r : L2.St} (h : R (a0 :: a1 :: a2 :: a3 :: a4 :: a5 :: a6 :: a7 :: a8 :: a9 :: a10 :: a11 :: a12 :: a13 :: a14 :: a15 :: a16 :: a17 :: some v :: r) H) : gName 18 v (a0 :: a1 :: a2 :: a3 :: a4 :: a5 :: a6 :: a7 :: a8 :: a9 :: a10 :: a11 :: a12 :: a13 :: a14 :: a15 :: a16 :: a17 :: b :: r) H R := h
instance i_name18 {R : L2.St → Hp → Prop} {a0 a1 a2 a3 a4 a5 a6 a7 a8 a9 a10 a11 a12 a13 a14 a15 a16 a17 : Option V} {b : Option V} {r : L2.St} : St (gName 18 v (a0 :: a1 :: a2 :: a3 :: a4 :: a5 :: a6 :: a7 :: a8 :: a9 :: a10 :: a11 :: a12 :: a13 :: a14 :: a15 :: a16 :: a17 :: b :: r) H R) (R (a0 :: a1 :: a2 :: a3 :: a4 :: a5 :: a6 :: a7 :: a8 :: a9 :: a10 :: a11 :: a12 :: a13 :: a14 :: a15 :: a16 :: a17 :: some v :: r) H) := ⟨g_name18⟩
theorem g_var18 {a0 a1 a2 a3 a4 a5 a6 a7 a8 a9 a10 a11 a12 a13 a14 a15 a16 a17 : Option V} {r : L2.St} (h : Q v H) : tVar 18 (a0 :: a1 :: a2 :: a3 :: a4 :: a5 :: a6 :: a7 :: a8 :: a9 :: a10 :: a11 :: a12 :: a13 :: a14 :: a15 :: a16 :: a17 :: some v :: r) H Q := ⟨v, rfl, h⟩
instance i_var18 {a0 a1 a2 a3 a4 a5 a6 a7 a8 a9 a10 a11 a12 a13 a14 a15 a16 a17 : Option V} {r : L2.St} : St (tVar 18 (a0 :: a1 :: a2 :: a3 :: a4 :: a5 :: a6 :: a7 :: a8 :: a9 :: a10 :: a11 :: a12 :: a13 :: a14 :: a15 :: a16 :: a17 :: some v :: r) H Q) (Q v H) := ⟨g_var18⟩
theorem g_name19 {R : L2.St → Hp → Prop} {a0 a1 a2 a3 a4 a5 a6 a7 a8 a9 a10 a11 a12 a13 a14 a15 a16 a17 a18 : Option V} {b : Option V} {r : L2.St} (h : R (a0 :: a1 :: a2 :: a3 :: a4 :: a5 :: a6 :: a7 :: a8 :: a9 :: a10 :: a11 :: a12 :: a13 :: a14 :: a15 :: a16 :: a17 :: a18 :: some v :: r) H) : gName 19 v (a0 :: a1 :: a2 :: a3 :: a4 :: a5 :: a6 :: a7 :: a8 :: a9 :: a10 :: a11 :: a12 :: a13 :: a14 :: a15 :: a16 :: a17 :: a18 :: b :: r) H R := h
instance i_name19 {R : L2.St → Hp → Prop} {a0 a1 a2 a3 a4 a5 a6 a7 a8 a9 a10 a11 a12 a13 a14 a15 a16 a17 a18 : Option V} {b : Option V} {r : L2.St} : St (gName 19 v (a0 :: a1 :: a2 :: a3 :: a4 :: a5 :: a6 :: a7 :: a8 :: a9 :: a10 :: a11 :: a12 :: a13 :: a14 :: a15 :: a16 :: a17 :: a18 :: b :: r) H R) (R (a0 :: a1 :: a2 :: a3 :: a4 :: a5 :: a6 :: a7 :: a8 :: a9 :: a10 :: a11 :: a12 :: a13 :: a14 :: a15 :: a16 :: a17 :: a18 :: some v :: r) H) := ⟨g_name19⟩
theorem g_var19 {a0 a1 a2 a3 a4 a5 a6 a7 a8 a9 a10 a11 a12 a13 a14 a15 a16 a17 a18 : Option V} {r : L2.St} (h : Q v H) : tVar 19 (a0 :: a1 :: a2 :: a3 :: a4 :: a5 :: a6 :: a7 :: a8 :: a9 :: a10 :: a11 :: a12 :: a13 :: a14 :: a15 :: a16 :: a17 :: a18 :: some v :: r) H Q := ⟨v, rfl, h⟩
instance i_var19 {a0 a1 a2 a3 a4 a5 a6 a7 a8 a9 a10 a11 a12 a13 a14 a15 a16 a17 a18 : Option V} {r : L2.St} : St (tVar 19 (a0 :: a1 :: a2 :: a3 :: a4 :: a5 :: a6 :: a7 :: a8 :: a9 :: a10 :: a11 :: a12 :: a13 :: a14 :: a15 :: a16 :: a17 :: a18 :: some v :: r) H Q) (Q v H) := ⟨g_var19⟩
theorem g_name20 {R : L2.St → Hp → Prop} {a0 a1 a2 a3 a4 a5 a6 a7 a8 a9 a10 a11 a12 a13 a14 a15 a16 a17 a18 a19 : Option V} {b : Option V} {r : L2.St} (h : R (a0 :: a1 :: a2 :: a3 :: a4 :: a5 :: a6 :: a7 :: a8 :: a9 :: a10 :: a11 :: a12 :: a13 :: a14 :: a15 :: a16 :: a17 :: a18 :: a19 :: some v :: r) H) : gName 20 v (a0 :: a1 :: a2 :: a3 :: a4 :: a5 :: a6 :: a7 :: a8 :: a9 :: a10 :: a11 :: a12 :: a13 :: a14 :: a15 :: a16 :: a17 :: a18 :: a19 :: b :: r) H R := h
instance i_name20 {R : L2.St → Hp → Prop} {a0 a1 a2 a3 a4 a5 a6 a7 a8 a9 a10 a11 a12 a13 a14 a15 a16 a17 a18 a19 : Option V} {b : Option V} {r : L2.St} : St (gName 20 v (a0 :: a1 :: a2 :: a3 :: a4 :: a5 :: a6 :: a7 :: a8 :: a9 :: a10 :: a11 :: a12 :: a13 :: a14 :: a15 :: a16 :: a17 :: a18 :: a19 :: b :: r) H R) (R (a0 :: a1 :: a2 :: a3 :: a4 :: a5 :: a6 :: a7 :: a8 :: a9 :: a10 :: a11 :: a12 :: a13 :: a14 :: a15 :: a16 :: a17 :: a18 :: a19 :: some v :: r) H) := ⟨g_name20⟩
theorem g_var20 {a0 a1 a2 a3 a4 a5 a6 a7 a8 a9 a10 a11 a12 a13 a14 a15 a16 a17 a18 a19 : Option V} {r : L2.St} (h : Q v H) : tVar 20 (a0 :: a1 :: a2 :: a3 :: a4 :: a5 :: a6 :: a7 :: a8 :: a9 :: a10 :: a11 :: a12 :: a13 :: a14 :: a15 :: a16 :: a17 :: a18 :: a19 :: some v :: r) H Q := ⟨v, rfl, h⟩
instance i_var20 {a0 a1 a2 a3 a4 a5 a6 a7 a8 a9 a10 a11 a12 a13 a14 a15 a16 a17 a18 a19 : Option V} {r : L2.St} : St (tVar 20 (a0 :: a1 :: a2 :: a3 :: a4 :: a5 :: a6 :: a7 :: a8 :: a9 :: a10 :: a11 :: a12 :: a13 :: a14 :: a15 :: a16 :: a17 :: a18 :: a19 :: some v :: r) H Q) (Q v H) := ⟨g_var20⟩
theorem g_name21 {R : L2.St → Hp → Prop} {a0 a1 a2 a3 a4 a5 a6 a7 a8 a9 a10 a11 a12 a13 a14 a15 a16 a17 a18 a19 a20 : Option V} {b : Option V} {r : L2.St} (h : R (a0 :: a1 :: a2 :: a3 :: a4 :: a5 :: a6 :: a7 :: a8 :: a9 :: a10 :: a11 :: a12 :: a13 :: a14 :: a15 :: a16 :: a17 :: a18 :: a19 :: a20 :: some v :: r) H) : gName 21 v (a0 :: a1 :: a2 :: a3 :: a4 :: a5 :: a6 :: a7 :: a8 :: a9 :: a10 :: a11 :: a12 :: a13 :: a14 :: a15 :: a16 :: a17 :: a18 :: a19 :: a20 :: b :: r) H R := h
instance i_name21 {R : L2.St → Hp → Prop} {a0 a1 a2 a3 a4 a5 a6 a7 a8 a9 a10 a11 a12 a13 a14 a15 a16 a17 a18 a19 a20 : Option V} {b : Option V} {r : L2.St} : St (gName 21 v (a0 :: a1 :: a2 :: a3 :: a4 :: a5 :: a6 :: a7 :: a8 :: a9 :: a10 :: a11 :: a12 :: a13 :: a14 :: a15 :: a16 :: a17 :: a18 :: a19 :: a20 :: b :: r) H R) (R (a0 :: a1 :: a2 :: a3 :: a4 :: a5 :: a6 :: a7 :: a8 :: a9 :: a10 :: a11 :: a12 :: a13 :: a14 :: a15 :: a16 :: a17 :: a18 :: a19 :: a20 :: some v :: r) H) := ⟨g_name21⟩
theorem g_var21 {a0 a1 a2 a3 a4 a5 a6 a7 a8 a9 a10 a11 a12 a13 a14 a15 a16 a17 a18 a19 a20 : Option V} {r : L2.St} (h : Q v H) : tVar 21 (a0 :: a1 :: a2 :: a3 :: a4 :: a5 :: a6 :: a7 :: a8 :: a9 :: a10 :: a11 :: a12 :: a13 :: a14 :: a15 :: a16 :: a17 :: a18 :: a19 :: a20 :: some v :: r) H Q := ⟨v, rfl, h⟩
instance i_var21 {a0 a1 a2 a3 a4 a5 a6 a7 a8 a9 a10 a11 a12 a13 a14 a15 a16 a17 a18 a19 a20 : Option V} {r : L2.St} : St (tVar 21 (a0 :: a1 :: a2 :: a3 :: a4 :: a5 :: a6 :: a7 :: a8 :: a9 :: a10 :: a11 :: a12 :: a13 :: a14 :: a15 :: a16 :: a17 :: a18 :: a19 :: a20 :: some v :: r) H Q) (Q v H) := ⟨g_var21⟩
theorem g_name22 {R : L2.St → Hp → Prop} {a0 a1 a2 a3 a4 a5 a6 a7 a8 a9 a10 a11 a12 a13 a14 a15 a16 a17 a18 a19 a20 a21 : Option V} {b : Option V} {r : L2.St} (h : R (a0 :: a1 :: a2 :: a3 :: a4 :: a5 :: a6 :: a7 :: a8 :: a9 :: a10 :: a11 :: a12 :: a13 :: a14 :: a15 :: a16 :: a17 :: a18 :: a19 :: a20 :: a21 :: some v :: r) H) : gName 22 v (a0 :: a1 :: a2 :: a3 :: a4 :: a5 :: a6 :: a7 :: a8 :: a9 :: a10 :: a11 :: a12 :: a13 :: a14 :: a15 :: a16 :: a17 :: a18 :: a19 :: a20 :: a21 :: b :: r) H R := h
instance i_name22 {R : L2.St → Hp → Prop} {a0 a1 a2 a3 a4 a5 a6 a7 a8 a9 a10 a11 a12 a13 a14 a15 a16 a17 a18 a19 a20 a21 : Option V} {b : Option V} {r : L2.St} : St (gName 22 v (a0 :: a1 :: a2 :: a3 :: a4 :: a5 :: a6 :: a7 :: a8 :: a9 :: a10 :: a11 :: a12 :: a13 :: a14 :: a15 :: a16 :: a17 :: a18 :: a19 :: a20 :: a21 :: b :: r) H R) (R (a0 :: a1 :: a2 :: a3 :: a4 :: a5 :: a6 :: a7 :: a8 :: a9 :: a10 :: a11 :: a12 :: a13 :: a14 :: a15 :: a16 :: a17 :: a18 :: a19 :: a20 :: a21 :: some v :: r) H) := ⟨g_name22⟩
theorem g_var22 {a0 a1 a2 a3 a4 a5 a6 a7 a8 a9 a10 a11 a12 a13 a14 a15 a16 a17 a18 a19 a20 a21 : Option V} {r : L2.St} (h : Q v H) : tVar 22 (a0 :: a1 :: a2 :: a3 :: a4 :: a5 :: a6 :: a7 :: a8 :: a9 :: a10 :: a11 :: a12 :: a13 :: a14 :: a15 :: a16 :: a17 :: a18 :: a19 :: a20 :: a21 :: some v :: r) H Q := ⟨v, rfl, h⟩
instance i_var22 {a0 a1 a2 a3 a4 a5 a6 a7 a8 a9 a10 a11 a12 a13 a14 a15 a16 a17 a18 a19 a20 a21 : Option V} {r : L2.St} : St (tVar 22 (a0 :: a1 :: a2 :: a3 :: a4 :: a5 :: a6 :: a7 :: a8 :: a9 :: a10 :: a11 :: a12 :: a13 :: a14 :: a15 :: a16 :: a17 :: a18 :: a19 :: a20 :: a21 :: some v :: r) H Q) (Q v H) := ⟨g_var22⟩
theorem g_name23 {R : L2.St → Hp → Prop} {a0 a1 a2 a3 a4 a5 a6 a7 a8 a9 a10 a11 a12 a13 a14 a15 a16 a17 a18 a19 a20 a21 a22 : Option V} {b : Option V} {r : L2.St} (h : R (a0 :: a1 :: a2 :: a3 :: a4 :: a5 :: a6 :: a7 :: a8 :: a9 :: a10 :: a11 :: a12 :: a13 :: a14 :: a15 :: a16 :: a17 :: a18 :: a19 :: a20 :: a21 :: a22 :: some v :: r) H) : gName 23 v (a0 :: a1 :: a2 :: a3 :: a4 :: a5 :: a6 :: a7 :: a8 :: a9 :: a10 :: a11 :: a12 :: a13 :: a14 :: a15 :: a16 :: a17 :: a18 :: a19 :: a20 :: a21 :: a22 :: b :: r) H R := h
instance i_name23 {R : L2.St → Hp → Prop} {a0 a1 a2 a3 a4 a5 a6 a7 a8 a9 a10 a11 a12 a13 a14 a15 a16 a17 a18 a19 a20 a21 a22 : Option V} {b : Option V} {r : L2.St} : St (gName 23 v (a0 :: a1 :: a2 :: a3 :: a4 :: a5 :: a6 :: a7 :: a8 :: a9 :: a10 :: a11 :: a12 :: a13 :: a14 :: a15 :: a16 :: a17 :: a18 :: a19 :: a20 :: a21 :: a22 :: b :: r) H R) (R (a0 :: a1 :: a2 :: a3 :: a4 :: a5 :: a6 :: a7 :: a8 :: a9 :: a10 :: a11 :: a12 :: a13 :: a14 :: a15 :: a16 :: a17 :: a18 :: a19 :: a20 :: a21 :: a22 :: some v :: r) H) := ⟨g_name23⟩
theorem g_var23 {a0 a1 a2 a3 a4 a5 a6 a7 a8 a9 a10 a11 a12 a13 a14 a15 a16 a17 a18 a19 a20 a21 a22 : Option V} {r : L2.St} (h : Q v H) : tVar 23 (a0 :: a1 :: a2 :: a3 :: a4 :: a5 :: a6 :: a7 :: a8 :: a9 :: a10 :: a11 :: a12 :: a13 :: a14 :: a15 :: a16 :: a17 :: a18 :: a19 :: a20 :: a21 :: a22 :: some v :: r) H Q := ⟨v, rfl, h⟩
instance i_var23 {a0 a1 a2 a3 a4 a5 a6 a7 a8 a9 a10 a11 a12 a13 a14 a15 a16 a17 a18 a19 a20 a21 a22 : Option V} {r : L2.St} : St (tVar 23 (a0 :: a1 :: a2 :: a3 :: a4 :: a5 :: a6 :: a7 :: a8 :: a9 :: a10 :: a11 :: a12 :: a13 :: a14 :: a15 :: a16 :: a17 :: a18 :: a19 :: a20 :: a21 :: a22 :: some v :: r) H Q) (Q v H) := ⟨g_var23⟩
end
theorem ne_nn {H : Hp} {a b : Addr} {o : HO} (h' : H b = none) (h : H a = some o) : a ≠ b := ne_of_none h h'
theorem ne_kd {H : Hp} {a b : Addr} {o u : HO} (h : H a = some o) (h' : H b = some u) (d : Nat.beq (kd o) (kd u) = false) : a ≠ b := ne_of h h' fun z => by
  rw [z] at d
  simp at d
theorem ntb {o : HO} (d : Nat.beq (kd o) 11 = false) : ∀ ps, o ≠ .tbl ps := fun ps z => by
  rw [z] at d
  exact absurd d (show ¬ (Nat.beq 11 11 = false) by decide)
theorem Kp.look {S : List Addr} {H H' : Hp} {p : Addr} {o : HO} (k : Kp S H H') (n : p ∉ S) (h : H p = some o) (t : ∀ ps, o ≠ .tbl ps) : H' p = some o := k.keep p o n h t
theorem nin1 {a b : Addr} (h : b ≠ a) : b ∉ [a] := fun z => h (by cases z with | head => rfl | tail _ z => cases z)
theorem nin0 {b : Addr} : b ∉ ([] : List Addr) := fun z => nomatch z
theorem nin2 {a c b : Addr} (h : b ≠ a) (h' : b ≠ c) : b ∉ [a, c] := fun z => by
  cases z with
  | head => exact h rfl
  | tail _ z => exact nin1 h' z
theorem ite_tt {A B : Prop} (h : A) : if true = true then A else B := by rw [if_pos rfl]; exact h
theorem ite_ff {A B : Prop} (h : B) : if false = true then A else B := by rw [if_neg Bool.false_ne_true]; exact h
theorem ite_dd {c A B : Prop} [Decidable c] (h1 : c → A) (h2 : ¬ c → B) : if decide c = true then A else B := by
  by_cases h : c
  · rw [if_pos (decide_eq_true h)]; exact h1 h
  · rw [if_neg (by rw [decide_eq_false h]; exact Bool.false_ne_true)]; exact h2 h
theorem ite_nd {c A B : Prop} [Decidable c] (h1 : ¬ c → A) (h2 : c → B) : if (!decide c) = true then A else B := by
  by_cases h : c
  · rw [if_neg (by rw [decide_eq_true h]; exact Bool.false_ne_true)]; exact h2 h
  · rw [if_pos (by rw [decide_eq_false h]; rfl)]; exact h1 h
theorem ite_bb {b : Bool} {A B : Prop} (h1 : b = true → A) (h2 : b = false → B) : if b = true then A else B := by
  cases b with
  | true => exact ite_tt (h1 rfl)
  | false => exact ite_ff (h2 rfl)
theorem ite_P {b : Bool} {A B : Prop} (e : b = true) (h : A) : if b = true then A else B := by rw [if_pos e]; exact h
theorem ite_N {b : Bool} {A B : Prop} (e : b = false) (h : B) : if b = true then A else B := by rw [if_neg (by rw [e]; exact Bool.false_ne_true)]; exact h
end Ap
namespace Ap
open PySem L2
def kWn (Pv : L2.St → Hp → Prop) (μ : L2.St → Hp → Nat) (n : Nat) (tb : TS) (D : Ends) (σ : L2.St) : Hp → Prop := fun H1 =>
  ∃ N : L2.St → Hp → Prop, (∀ σ' H', N σ' H' → ∃ m', m' < n ∧ (m' = μ σ' H' ∧ Pv σ' H')) ∧ tb { D with nx := N, ct := N, bk := D.nx } σ H1
theorem g_kWn {Pv : L2.St → Hp → Prop} {μ : L2.St → Hp → Nat} {n : Nat} {tb : TS} {D : Ends} {σ : L2.St} {H : Hp}
    (h : tb ⟨fun σ' H' => Pv σ' H' ∧ μ σ' H' < n, D.rt, D.nx, fun σ' H' => Pv σ' H' ∧ μ σ' H' < n⟩ σ H) : kWn Pv μ n tb D σ H :=
  ⟨fun σ' H' => Pv σ' H' ∧ μ σ' H' < n, fun _ _ q => ⟨_, q.2, rfl, q.1⟩, h⟩
instance i_kWn {Pv : L2.St → Hp → Prop} {μ : L2.St → Hp → Nat} {n : Nat} {tb : TS} {D : Ends} {σ : L2.St} {H : Hp} : St (kWn Pv μ n tb D σ H) (tb ⟨fun σ' H' => Pv σ' H' ∧ μ σ' H' < n, D.rt, D.nx, fun σ' H' => Pv σ' H' ∧ μ σ' H' < n⟩ σ H) := ⟨g_kWn⟩
/-- a while, by what holds ahead of its test and a number that falls -/
theorem g_whl {tt : TT} {tb : TS} {D : Ends} {σ : L2.St} {H : Hp} (Pv : L2.St → Hp → Prop) (μ : L2.St → Hp → Nat) (h0 : Pv σ H)
    (hs : ∀ σ H, Pv σ H → tt σ H (kIf (kWn Pv μ (μ σ H) tb D σ) (D.nx σ))) : tWhile tt tb D σ H :=
  ⟨fun m σ H => m = μ σ H ∧ Pv σ H, ⟨_, rfl, h0⟩, fun m σ H ⟨e, p⟩ => by subst e; exact hs σ H p⟩
end Ap
namespace Ap
open PySem L2
theorem g_cut {t u : TS} {D : Ends} {σ : L2.St} {H : Hp} (Mid : L2.St → Hp → Prop) (h1 : t ⟨Mid, D.rt, D.bk, D.ct⟩ σ H) (h2 : ∀ σ' H', Mid σ' H' → u D σ' H') : Evl.tCut t u D σ H := ⟨Mid, h1, h2⟩
end Ap
namespace Ap
open PySem L2
section
variable {K : PySem.W.Frag} {σ : L2.St} {H : Hp} {Q : VK} {x : V} {te : TE} {tl th : TO} {i : Int} {lo hi : Option Int}
abbrev SlF := V → Option Int → Option Int → Hp → VK → Prop
abbrev OK := Option Int → Hp → Prop
def kSl1 (r : SlF) (tl th : TO) (σ : L2.St) (Q : VK) : VK := fun x H1 => tl σ H1 fun l H2 => th σ H2 fun u H3 => r x l u H3 Q
def kSl2 (r : SlF) (th : TO) (x : V) (σ : L2.St) (Q : VK) : OK := fun l H2 => th σ H2 fun u H3 => r x l u H3 Q
def kSl3 (r : SlF) (x : V) (lo : Option Int) (Q : VK) : OK := fun u H3 => r x lo u H3 Q
def kPa (R : OK) : VK := fun x H1 => ∃ i, x = .int i ∧ R (some i) H1
instance i_sl {r : SlF} : St (tSl r te tl th σ H Q) (te σ H (kSl1 r tl th σ Q)) := ⟨id⟩
instance i_kSl1 {r : SlF} : St (kSl1 r tl th σ Q x H) (tl σ H (kSl2 r th x σ Q)) := ⟨id⟩
instance i_kSl2 {r : SlF} : St (kSl2 r th x σ Q lo H) (th σ H (kSl3 r x lo Q)) := ⟨id⟩
instance i_kSl3 {r : SlF} : St (kSl3 r x lo Q hi H) (r x lo hi H Q) := ⟨id⟩
instance i_noPart {R : OK} : St (tNoPart σ H R) (R none H) := ⟨id⟩
instance i_part {R : OK} : St (tPart te σ H R) (te σ H (kPa R)) := ⟨id⟩
instance i_kPa {R : OK} : St (kPa R (.int i) H) (R (some i) H) := ⟨fun h => ⟨i, rfl, h⟩⟩
theorem g_slL {p : Addr} {xs : List V} (e : H p = some (.lst xs)) (h : ∀ q, H q = none → Q (.ref q) (upd H q (.lst (cutV xs lo hi)))) : rSlL K (.ref p) lo hi H Q := ⟨p, xs, rfl, SqL.of e, h⟩
end
theorem cut_to {xs : List V} {k : Nat} {i : Int} (e : i = (k : Int)) (h : k ≤ xs.length) : cutV xs none (some i) = xs.take k := by
  subst e
  unfold cutV
  rw [HT.sIx_none, HT.sIx_nat, List.drop_zero, Nat.min_eq_left h, Nat.sub_zero]
theorem cut_from {xs : List V} {k : Nat} {i : Int} (e : i = (k : Int)) : cutV xs (some i) none = xs.drop k := by
  subst e
  unfold cutV
  rw [HT.sIx_none, HT.sIx_nat]
  by_cases h : k ≤ xs.length
  · rw [Nat.min_eq_left h, List.take_of_length_le (by rw [List.length_drop]; omega)]
  · rw [Nat.min_eq_right (by omega), List.drop_eq_nil_of_le (Nat.le_refl _), List.drop_eq_nil_of_le (by omega)]; simp
end Ap


/-! KG: defs whose callers are not within a repr (what repr asks); the law's end over them. -/
namespace Ap
open PySem L2 PySem.Spec PyProof.Rows
section
variable (P : Program) (w : World) (K : PySem.W.Frag) (mg : Str → Option Value) (base : Heap) (CX : CXT)
/-- as FnOk, at calls around which no repr runs -/
structure FnG (k : Nat) (f : Addr) (fd : FuncData) (ps : List Str) (sp : Sp) : Prop where
  len : ∀ vs H Q E, sp vs H Q E → vs.length = ps.length
  go : ∀ (B : Around) (outs : List Env) (s : Shared) (H : Hp) (args : Args) (us : List Value) (vs : List V) (Q : VK) (E : XK), Room k B → B.guards = some [] →
    Env0 P w K mg base B outs s H → BindsTo s fd args (ps.zip us) → Vals vs us → sp vs H Q E → codeAny (model P w) B (.call (.ref f) args) (CR CX outs P w H s Q E) s
end
section
variable {P : Program} {w : World} {K : PySem.W.Frag} {mg : Str → Option Value} {base : Heap} {CX : CXT} {k : Nat} {f : Addr} {fd : FuncData} {ps : List Str} {sp : Sp}
theorem FnG.of (F : FnOk P w K mg base CX k f fd ps sp) : FnG P w K mg base CX k f fd ps sp := ⟨F.len, fun B outs s H args us vs Q E hr _ => F.run B outs s H args us vs Q E hr⟩
theorem FnG.mono {j : Nat} (F : FnG P w K mg base CX j f fd ps sp) (h : j ≤ k) : FnG P w K mg base CX k f fd ps sp :=
  ⟨F.len, fun B outs s H args us vs Q E hr => F.go B outs s H args us vs Q E (hr.mono h)⟩
theorem FnG.imp {sp' : Sp} (F : FnG P w K mg base CX k f fd ps sp) (h : ∀ vs H Q E, sp' vs H Q E → sp vs H Q E) : FnG P w K mg base CX k f fd ps sp' :=
  ⟨fun vs H Q E q => F.len vs H Q E (h vs H Q E q), fun B outs s H args us vs Q E hr hg e b r q => F.go B outs s H args us vs Q E hr hg e b r (h vs H Q E q)⟩
theorem _root_.L2.Room.u1 {k : Nat} {A : Around} (r : Room k A) : A.units + 1 < cLine := by have := r.un; omega
theorem _root_.L2.Room.u64 {k : Nat} {A : Around} (r : Room k A) : A.units + 64 < cLine := by have := r.un; omega
/-- a def by its body -/
theorem fnG_of {x qual : Str} {st : Stmt} {N : List Str} (F : Fun K x qual st f fd) (S : FnScope N ps (defScope st)) (len : ∀ vs H Q E, sp vs H Q E → vs.length = ps.length)
    (body : ∀ (cdv : Value) (B : Around) (outs : List Env) (s : Shared) (H : Hp) (vs : List V) (Q : VK) (E : XK), fd.code = cdv → Room k (B.deeper (envOfC qual (defScope st) s.heap.objs.size f cdv)) → B.guards = some [] → sp vs H Q E →
      ∃ t, PSs (cxOf CX P w K mg base N qual (defScope st) f cdv B outs s H E) (defBody st) t ∧ t ⟨fun _ H' => Q .non H', Q, fun _ _ => False, fun _ _ => False⟩ (start N vs) H) :
    FnG P w K mg base CX (k + 1) f fd ps sp := by
  obtain ⟨oc, od, kV, doc, pm, an, cdv, ct, osl, rfl, lk, hcd⟩ := F.ex
  refine ⟨len, fun B outs s H args us vs Q E hr hg e0 hb rv hsp => ?_⟩
  have ln := len vs H Q E hsp
  have kin : K.In s.heap := e0.mod.kin.keeps fun b o e => (e0.bs b o e).1
  refine codeAny_call_function hr.depth (kin f _ lk) rfl S.co S.gen rfl (PySem.W.codeRec_of kin hcd) (hb _ _ _ _ ?_)
  refine wpAny_newFunctionEnv_cells S.kind (fun y hy => ?_) fun env he s1 inc => ?_
  · rcases S.par y.1 (List.of_mem_zip (show (y.1, y.2) ∈ ps.zip us from hy)).1 with q | q
    · exact .inl q
    · exact .inr ⟨q, PySem.W.cellsFrom_some _ _ _ (.inl q)⟩
  · subst he
    refine ⟨(e0.mod.nolimit.keeps fun b o e => (e0.bs b o e).1).keeps inc.toInCall.keep, codeAny_func ?_⟩
    obtain ⟨t, ht, hq⟩ := body cdv B outs s H vs Q E rfl (hr.deeper _) hg hsp
    have I0 := inv_start (CX := CX) (E := E) (K := K) (cd := cdv) (f := f) S hr.hd e0 ln rv inc
    refine wpAny_mono (ht.run [] s1 (start N vs) H _ I0 hq) (fun fl s2 hs => ?_) fun _ _ hs => hs
    cases fl with
    | ret u =>
      obtain ⟨v, σ', H', J, r', q⟩ := hs
      exact ⟨v, H', J.os, J.bare, J.base, J.hok, r', q⟩
    | next =>
      obtain ⟨σ', H', J, q⟩ := hs
      exact ⟨.non, H', J.os, J.bare, J.base, J.hok, rfl, q⟩
    | brk =>
      obtain ⟨_, _, _, z⟩ := hs
      exact z.elim
    | cont =>
      obtain ⟨_, _, _, z⟩ := hs
      exact z.elim
/-- the same where nothing that is raised leaves it -/
theorem fnG_of0 {x qual : Str} {st : Stmt} {N : List Str} (F : Fun K x qual st f fd) (S : FnScope N ps (defScope st)) (len : ∀ vs H Q E, sp vs H Q E → vs.length = ps.length)
    (body : ∀ (cdv : Value) (B : Around) (outs : List Env) (s : Shared) (H : Hp) (vs : List V) (Q : VK) (E : XK), fd.code = cdv → Room k (B.deeper (envOfC qual (defScope st) s.heap.objs.size f cdv)) → B.guards = some [] → sp vs H Q E →
      ∃ t, PSs (cxOf CX0 P w K mg base N qual (defScope st) f cdv B outs s H E).nox (defBody st) t ∧ t ⟨fun _ H' => Q .non H', Q, fun _ _ => False, fun _ _ => False⟩ (start N vs) H) :
    FnG P w K mg base CX0 (k + 1) f fd ps sp := fnG_of F S len fun cdv B outs s H vs Q E hc hr hg hsp => by
  obtain ⟨t, ht, hq⟩ := body cdv B outs s H vs Q E hc hr hg hsp
  exact ⟨t, ht.nox, hq⟩
/-! for defs and methods of the program: whatever runs around them -/
/-- a def by its body -/
theorem fnK_of {x qual : Str} {st : Stmt} {N : List Str} (F : Fun K x qual st f fd) (S : FnScope N ps (defScope st)) (len : ∀ vs H Q E, sp vs H Q E → vs.length = ps.length)
    (body : ∀ (cdv : Value) (B : Around) (outs : List Env) (s : Shared) (H : Hp) (vs : List V) (Q : VK) (E : XK), fd.code = cdv → Room k (B.deeper (envOfC qual (defScope st) s.heap.objs.size f cdv)) → sp vs H Q E →
      ∃ t, PSs (cxOf CX P w K mg base N qual (defScope st) f cdv B outs s H E) (defBody st) t ∧ t ⟨fun _ H' => Q .non H', Q, fun _ _ => False, fun _ _ => False⟩ (start N vs) H) :
    FnOk P w K mg base CX (k + 1) f fd ps sp := by
  obtain ⟨oc, od, kV, doc, pm, an, cdv, ct, osl, rfl, lk, hcd⟩ := F.ex
  refine ⟨len, fun B outs s H args us vs Q E hr e0 hb rv hsp => ?_⟩
  have ln := len vs H Q E hsp
  have kin : K.In s.heap := e0.mod.kin.keeps fun b o e => (e0.bs b o e).1
  refine codeAny_call_function hr.depth (kin f _ lk) rfl S.co S.gen rfl (PySem.W.codeRec_of kin hcd) (hb _ _ _ _ ?_)
  refine wpAny_newFunctionEnv_cells S.kind (fun y hy => ?_) fun env he s1 inc => ?_
  · rcases S.par y.1 (List.of_mem_zip (show (y.1, y.2) ∈ ps.zip us from hy)).1 with q | q
    · exact .inl q
    · exact .inr ⟨q, PySem.W.cellsFrom_some _ _ _ (.inl q)⟩
  · subst he
    refine ⟨(e0.mod.nolimit.keeps fun b o e => (e0.bs b o e).1).keeps inc.toInCall.keep, codeAny_func ?_⟩
    obtain ⟨t, ht, hq⟩ := body cdv B outs s H vs Q E rfl (hr.deeper _) hsp
    have I0 := inv_start (CX := CX) (E := E) (K := K) (cd := cdv) (f := f) S hr.hd e0 ln rv inc
    refine wpAny_mono (ht.run [] s1 (start N vs) H _ I0 hq) (fun fl s2 hs => ?_) fun _ _ hs => hs
    cases fl with
    | ret u =>
      obtain ⟨v, σ', H', J, r', q⟩ := hs
      exact ⟨v, H', J.os, J.bare, J.base, J.hok, r', q⟩
    | next =>
      obtain ⟨σ', H', J, q⟩ := hs
      exact ⟨.non, H', J.os, J.bare, J.base, J.hok, rfl, q⟩
    | brk =>
      obtain ⟨_, _, _, z⟩ := hs
      exact z.elim
    | cont =>
      obtain ⟨_, _, _, z⟩ := hs
      exact z.elim
/-- the same where nothing that is raised leaves it -/
theorem fnK_of0 {x qual : Str} {st : Stmt} {N : List Str} (F : Fun K x qual st f fd) (S : FnScope N ps (defScope st)) (len : ∀ vs H Q E, sp vs H Q E → vs.length = ps.length)
    (body : ∀ (cdv : Value) (B : Around) (outs : List Env) (s : Shared) (H : Hp) (vs : List V) (Q : VK) (E : XK), fd.code = cdv → Room k (B.deeper (envOfC qual (defScope st) s.heap.objs.size f cdv)) → sp vs H Q E →
      ∃ t, PSs (cxOf CX0 P w K mg base N qual (defScope st) f cdv B outs s H E).nox (defBody st) t ∧ t ⟨fun _ H' => Q .non H', Q, fun _ _ => False, fun _ _ => False⟩ (start N vs) H) :
    FnOk P w K mg base CX0 (k + 1) f fd ps sp := fnK_of F S len fun cdv B outs s H vs Q E hc hr hsp => by
  obtain ⟨t, ht, hq⟩ := body cdv B outs s H vs Q E hc hr hsp
  exact ⟨t, ht.nox, hq⟩
end
section
variable {X : Cx} {CX : CXT} {k : Nat} {f : Addr} {fd : FuncData} {ps : List Str} {sp : Sp} {dvs : List V} {ds : List Value} {E : XK} {x : Str} {p pos : Pos} {e : Expr} {es : List Expr} {t : TA}
theorem run_g {pins : List (Addr × Obj)} {σ : L2.St} {H : Hp} {s : Shared} {Q : VK} {us : List Value} {vs : List V} (F : FnG X.prog X.w X.K X.mg X.base CX k f fd ps sp) (hr : Room k X.A) (gd : X.A.guards = some []) (hb : Binds X.K fd ps ds) (hd : Vals dvs ds) (hx : Passes CX X E)
    (I : Inv X pins σ H s) (r : Vals vs us) (h : sp (vs ++ dvs) H Q E) : wpAny (model X.prog X.w) X.A (call (.ref f) us) (EP X pins σ Q) X.xe s := by
  have rr : Vals (vs ++ dvs) (us ++ ds) := r.append hd
  have ln : (us ++ ds).length = ps.length := rr.length.symm.trans (F.len _ _ _ _ h)
  refine wpAny_call (codeAny_mono (F.go X.A X.stack s H ⟨us, []⟩ (us ++ ds) (vs ++ dvs) Q E hr gd I.env0 (hb s us I.kIn ln) rr h) fun res s2 hq => ?_)
  match res, hq with
  | .error e, hq => exact hx pins σ H s e s2 I hq
  | .ok (.ret u), hq => exact I.after hq
  | .ok .next, hq => exact False.elim hq
  | .ok .brk, hq => exact False.elim hq
  | .ok .cont, hq => exact False.elim hq
/-- f(e, ..) -/
theorem pe_callG (F : FnG X.prog X.w X.K X.mg X.base CX k f fd ps sp) (hr : Room k X.A) (gd : X.A.guards = some []) (hg : Gl X x) (hm : X.mg x = some (.ref f)) (hk : PySem.W.keepIn X.K (.ref f) = true) (hb : Binds X.K fd ps ds) (hd : Vals dvs ds) (hx : Passes CX X E)
    (ha : PA X (e :: es) t) (hdb : (x == ("__debug__" : Str)) = false := by decide) (he : starEach (e :: es) X.env = (false, eval e X.env) :: starEach es X.env := by rfl)
    (hpl : (backTo pos (starEach es X.env)).any (·.1) = false := by rfl) : PE X (.Call (.Name x p) (e :: es) [] pos) (tCall sp dvs E t) :=
  ⟨fun pins s σ H Q I h => wpAny_Call_Name_kw (ld_glob I hg hm (PySem.W.callWith_K (h₀ := X.base) I.ok.mod.kin hk
    (thn (ha.run pos pins s σ H _ I h) fun us s1 ⟨vs, H1, I1, r, q⟩ => ⟨I1.kIn, run_g F hr gd hb hd hx I1 r q⟩) he hpl) hdb)⟩
theorem pe_callG0 (F : FnG X.prog X.w X.K X.mg X.base CX k f fd ps sp) (hr : Room k X.A) (gd : X.A.guards = some []) (hg : Gl X x) (hm : X.mg x = some (.ref f)) (hk : PySem.W.keepIn X.K (.ref f) = true) (hb : Binds X.K fd ps ds) (hd : Vals dvs ds) (hx : Passes CX X E)
    (hdb : (x == ("__debug__" : Str)) = false := by decide) : PE X (.Call (.Name x p) [] [] pos) (tCall sp dvs E tNil) :=
  ⟨fun pins s σ H Q I h => wpAny_Call_Name_kw (ld_glob I hg hm (PySem.W.callWith_K0 I.kIn hk (run_g (us := []) F hr gd hb hd hx I .nil h)) hdb)⟩
/-- f(k=e, ..): keywords alone; g tells the parameters' order -/
theorem run_gk {ks : List Str} {g : List Value → List Value → List Value} {gV : List V → List V → List V} {pins : List (Addr × Obj)} {σ : L2.St} {H : Hp} {s : Shared} {Q : VK} {us ws : List Value} {vs zs : List V} (F : FnG X.prog X.w X.K X.mg X.base CX k f fd ps sp) (hr : Room k X.A) (gd : X.A.guards = some []) (hb : KBinds X.K fd ps ks g gV) (hx : Passes CX X E)
    (I : Inv X pins σ H s) (r : Vals vs us) (rz : Vals zs ws) (h : sp (gV vs zs) H Q E) : wpAny (model X.prog X.w) X.A (call (.ref f) us (ks.zip ws)) (EP X pins σ Q) X.xe s := by
  have rr := hb.rel r rz
  have ln : (g us ws).length = ps.length := rr.length.symm.trans (F.len _ _ _ _ h)
  refine wpAny_call (codeAny_mono (F.go X.A X.stack s H ⟨us, ks.zip ws⟩ (g us ws) (gV vs zs) Q E hr gd I.env0 (hb.to s us ws I.kIn ln) rr h) fun res s2 hq => ?_)
  match res, hq with
  | .error e, hq => exact hx pins σ H s e s2 I hq
  | .ok (.ret u), hq => exact I.after hq
  | .ok .next, hq => exact False.elim hq
  | .ok .brk, hq => exact False.elim hq
  | .ok .cont, hq => exact False.elim hq
end
end Ap
namespace Ap
open PySem L2 PySem.Spec PyProof.Rows
section
variable {X : Cx} {CX : CXT} {k : Nat} {f : Addr} {fd : FuncData} {ps ks : List Str} {sp : Sp} {E : XK} {x : Str} {p pos : Pos} {g : List Value → List Value → List Value} {gV : List V → List V → List V} {kws : List Keyword} {tk : TA}
def tKw (sp : Sp) (gV : List V → List V → List V) (E : XK) (tk : TA) : TE := fun σ H Q => tk σ H fun zs H2 => sp (gV [] zs) H2 Q E
/-- f(k=e, ..), keywords alone -/
theorem pe_callGK (F : FnG X.prog X.w X.K X.mg X.base CX k f fd ps sp) (hr : Room k X.A) (gd : X.A.guards = some []) (hg : Gl X x) (hm : X.mg x = some (.ref f)) (hk : PySem.W.keepIn X.K (.ref f) = true) (hb : KBinds X.K fd ps ks g gV) (hx : Passes CX X E) (hkw : PK X kws tk)
    (hall : (backToKw pos (keywordEach kws X.env)).all (·.1.isSome) = true := by rfl) (hks : (backToKw pos (keywordEach kws X.env)).filterMap (·.1) = ks := by rfl) (hdb : (x == ("__debug__" : Str)) = false := by decide)
    (hpl : ((backTo pos (starEach [] X.env)).any (·.1) || (backToKw pos (keywordEach kws X.env)).any (·.1.isNone)) = false := by rfl) : PE X (.Call (.Name x p) [] kws pos) (tKw sp gV E tk) := by
  refine ⟨fun pins s σ H Q I h => wpAny_Call_Name_kw (ld_glob I hg hm (PySem.W.callWith_KW0 (h₀ := X.base) I.ok.mod.kin hk hall ?_ hpl) hdb)⟩
  refine thn (hkw.run pos pins s σ H _ I h) fun ws s2 ⟨zs, H2, I2, rz, q2⟩ => ⟨I2.kIn, ?_⟩
  rw [hks]
  exact run_gk (us := []) (vs := []) F hr gd hb hx I2 .nil rz q2
def kKw (sp : Sp) (gV : List V → List V → List V) (E : XK) (Q : VK) : LK := fun zs H2 => sp (gV [] zs) H2 Q E
theorem g_kw {σ : L2.St} {H : Hp} {Q : VK} (h : tk σ H (kKw sp gV E Q)) : tKw sp gV E tk σ H Q := h
instance i_kw {σ : L2.St} {H : Hp} {Q : VK} : St (tKw sp gV E tk σ H Q) (tk σ H (kKw sp gV E Q)) := ⟨g_kw⟩
instance i_kKw {H : Hp} {Q : VK} {zs : List V} : St (kKw sp gV E Q zs H) (sp (gV [] zs) H Q E) := ⟨fun h => h⟩
theorem g_kKw {H : Hp} {Q : VK} {zs : List V} (h : sp (gV [] zs) H Q E) : kKw sp gV E Q zs H := h
end
/-- two keywords in the other order -/
def sw2 {α : Type} : List α → List α → List α := fun us ws => match us, ws with
  | [], [a, b] => [b, a]
  | _, _ => []
/-- one keyword -/
def sw1 {α : Type} : List α → List α → List α := fun us ws => match us, ws with
  | [], [a] => [a]
  | _, _ => []
theorem kb_sw2 {K : PySem.W.Frag} {x qual : Str} {st : Stmt} {f : Addr} {fd : FuncData} {p q : Str} (F : Fun K x qual st f fd)
    (h : ∀ (kV doc pm : Value) (an : Option Addr) (cdv ct a b : Value), bindArgs (PySem.W.fnOf x qual (defArgs st) (defBody st) (defScope st) .none kV doc pm an cdv ct) ⟨[], [(q, a), (p, b)]⟩ = pure [(p, b), (q, a)]) : KBinds K fd [p, q] [q, p] sw2 sw2 := by
  obtain ⟨oc, od, kV, doc, pm, an, cdv, ct, osl, rfl, lk, hcd⟩ := F.ex
  refine ⟨fun s us ws _ hl => ?_, fun {vs us zs ws} r1 r2 => ?_⟩
  · match us, ws, hl with
    | [], [a, b], _ => exact .of_eq (h _ _ _ _ _ _ a b)
  · cases r1 with
    | cons _ _ => exact .nil
    | nil =>
      cases r2 with
      | nil => exact .nil
      | cons a r2 =>
        cases r2 with
        | nil => exact .nil
        | cons b r2 =>
          cases r2 with
          | nil => exact .cons b (.cons a .nil)
          | cons _ _ => exact .nil
theorem kb_sw1 {K : PySem.W.Frag} {x qual : Str} {st : Stmt} {f : Addr} {fd : FuncData} {p : Str} (F : Fun K x qual st f fd)
    (h : ∀ (kV doc pm : Value) (an : Option Addr) (cdv ct a : Value), bindArgs (PySem.W.fnOf x qual (defArgs st) (defBody st) (defScope st) .none kV doc pm an cdv ct) ⟨[], [(p, a)]⟩ = pure [(p, a)]) : KBinds K fd [p] [p] sw1 sw1 := by
  obtain ⟨oc, od, kV, doc, pm, an, cdv, ct, osl, rfl, lk, hcd⟩ := F.ex
  refine ⟨fun s us ws _ hl => ?_, fun {vs us zs ws} r1 r2 => ?_⟩
  · match us, ws, hl with
    | [], [a], _ => exact .of_eq (h _ _ _ _ _ _ a)
  · cases r1 with
    | cons _ _ => exact .nil
    | nil =>
      cases r2 with
      | nil => exact .nil
      | cons a r2 =>
        cases r2 with
        | nil => exact .cons a .nil
        | cons b r2 => exact .nil

/-! ### the end -/
/-- the heap that the law's call is entered with: the script at a, the tables (their places in ts), nothing else -/
def H0 (a : Addr) (o : Obj) (ns : List Int) (scr : Bool) (ts : List Addr) : Hp := fun b => if b = a then (if scr = true then some (.frz o (.lst (ns.map V.int))) else none) else if b ∈ ts then some (.tbl #[]) else none
theorem law_go {P : Program} {w : World} {K : PySem.W.Frag} {mg mb : Str → Option Value} {CX : CXT} {k : Nat} {fa a : Addr} {fd : FuncData} {x : Str} {sp : Sp} {s₁ : Shared} {vs : List Value} {ns : List Int} {cs : List (Addr × Addr)} {q : Program} {loose : List Str} {mean : ExcName → Option Value}
    (KX : K.In s₁.heap) (T : PyProof.Rows.Top q loose mean mg mb s₁.heap) (noG : s₁.gens = #[])
    (hT : ∀ p ∈ cs, PySem.W.CodeHd s₁.heap p.1 p.2 ∧ s₁.heap.get? p.2 = some { cls := .none, data := .fields #[] }) (nT : ∀ p ∈ cs, K.lookup p.2 = none)
    (ha : s₁.heap.get? a = some { cls := .type "list", data := .seq vs.toArray }) (hi : IntsAre vs ns) (hl : ns.length ≤ sizeLine) (hr : Room k callerA)
    (F : ∀ base : Heap, K.In base → base.Ns mainGlobals mg → (∀ p ∈ cs, GxR.TabB base mg p.1 p.2) → FnG P w K mg base CX k fa fd [x] sp) (hbind : ∀ (s : Shared) (u : Value), BindsTo s fd ⟨[u], []⟩ [(x, u)])
    (hsp : ∀ H : Hp, (∀ p ∈ cs, H p.2 = some (.tbl #[])) → SqL K H a (ns.map V.int) → sp [.ref a] H (fun v _ => v = .bl true) fun _ _ _ => False)
    (hCX : ∀ H e s', CX [] H s₁ (fun _ _ _ => False) e s' → False) :
    codeAny (model P w) callerA (.call (.ref fa) ⟨[.ref a], []⟩) (fun r s' => r = .ok (.ret (.bool true)) ∧ OldK s₁.heap s'.heap ∧ s'.os = s₁.os ∧ AllBare s'.gens) s₁ := by
  generalize ho : ({ cls := .type "list", data := .seq vs.toArray } : Obj) = o at ha
  have vals := vals_ints hi
  have inT : ∀ b, b ∈ cs.map (·.2) → ∃ p ∈ cs, p.2 = b := fun b hb => by
    obtain ⟨p, hp, e⟩ := List.mem_map.mp hb
    exact ⟨p, hp, e⟩
  have atT : ∀ b, b ∈ cs.map (·.2) → s₁.heap.get? b = some { cls := .none, data := .fields #[] } := fun b hb => by
    obtain ⟨p, hp, rfl⟩ := inT b hb
    exact (hT p hp).2
  have oT : o ≠ { cls := .none, data := .fields #[] } := fun z => by rw [← ho] at z; cases z
  have naT : a ∉ cs.map (·.2) := fun z => oT (Option.some.inj (ha.symm.trans (atT a z)))
  -- whether the script is one of the module's own
  generalize hscr : (K.lookup a).isNone = scr
  generalize hH : H0 a o ns scr (cs.map (·.2)) = H
  have Ha : H a = if scr = true then some (.frz o (.lst (ns.map V.int))) else none := by rw [← hH]; exact if_pos rfl
  have Ht : ∀ b, b ∈ cs.map (·.2) → H b = some (.tbl #[]) := fun b hb => by
    rw [← hH]
    unfold H0
    rw [if_neg (show ¬ b = a from fun z => naT (by rw [← z]; exact hb)), if_pos hb]
  have Hn : ∀ b, b ≠ a → b ∉ cs.map (·.2) → H b = none := fun b h1 h2 => by
    rw [← hH]
    unfold H0
    rw [if_neg h1, if_neg h2]
  have Hany : ∀ b, H b ≠ none → b = a ∨ b ∈ cs.map (·.2) := fun b hb => by
    by_cases h1 : b = a
    · exact .inl h1
    · by_cases h2 : b ∈ cs.map (·.2)
      · exact .inr h2
      · exact absurd (Hn b h1 h2) hb
  have plain : ∀ (b : Addr) (u : Obj), s₁.heap.get? b = some u → u ≠ o → u ≠ { cls := .none, data := .fields #[] } → H b = none := fun b u e n1 n2 => by
    refine Hn b (fun z => n1 ?_) fun z => n2 ?_
    · rw [z] at e
      exact Option.some.inj (e.symm.trans ha)
    · exact Option.some.inj (e.symm.trans (atT b z))
  have held : HOk P w H s₁.heap := fun b u e => by
    rcases Hany b (by rw [e]; exact fun z => nomatch z) with rfl | hb
    · rw [Ha] at e
      cases scr with
      | false => exact nomatch e
      | true =>
        cases e
        exact ⟨ha, by rw [List.length_map]; exact hl, vs, 0, vals, by rw [ho]; exact ha⟩
    · rw [Ht b hb] at e
      cases e
      exact atT b hb
  have kinH : K.In (hidT s₁.heap H) := fun b u e => hidT_get (KX b u e) (by
    by_cases h1 : b = a
    · rw [h1, Ha]
      have : scr = false := by rw [← hscr, ← h1, e]; rfl
      rw [this]
      exact if_neg Bool.false_ne_true
    · refine Hn b h1 fun z => ?_
      obtain ⟨p, hp, rfl⟩ := inT b z
      rw [nT p hp] at e
      exact nomatch e)
  have nsH : ∀ {b : Addr} {m : Str → Option Value}, s₁.heap.Ns b m → (hidT s₁.heap H).Ns b m := fun {b m} ⟨u, es, ep, e, d, r⟩ =>
    ⟨u, es, ep, hidT_get e (plain b u e (fun z => by rw [z, ← ho] at d; cases d) (fun z => by rw [z] at d; cases d)), d, r⟩
  have modH : L2.Mod K mg (hidT s₁.heap H) := by
    obtain ⟨mc, n1, n2⟩ := T.nolimit
    exact ⟨kinH, nsH T.g, ⟨mb, nsH T.b, T.builtins⟩, ⟨mc, nsH n1, n2⟩⟩
  have tabs : ∀ p ∈ cs, GxR.TabB (hidT s₁.heap H) mg p.1 p.2 := fun p hp => by
    obtain ⟨⟨u, us, file, tf, flags, tg, inF, text, tt, c1, c2, c3, c4⟩, c5⟩ := hT p hp
    obtain ⟨bm, ob, b1, b2, b3, b4, b5, b6⟩ := T.bmain
    obtain ⟨gm, ges, gep, ge, gd, _⟩ := T.g
    refine ⟨⟨u, us, file, tf, flags, tg, inF, text, tt, hidT_get c1 (plain _ u c1 (fun z => by rw [z, ← ho] at c2; simp at c2) (fun z => by rw [z] at c2; cases c2)), c2, c3, c4⟩, ⟨bm, ob, b1, b2, fun z => ?_, fun z => ?_, hidT_get b3 (plain _ ob b3 (fun z => by rw [z, ← ho] at b4; simp at b4) (fun z => by rw [z] at b4; cases b4)), b4, b5, b6⟩, fun z => ?_⟩
    · rw [z, ge] at b3
      cases b3
      rw [gd] at b6
      cases b6
    · rw [z, c5] at b3
      cases b3
      cases b6
    · rw [z, c5] at ge
      cases ge
      cases gd
  have seen : SqL K H a (ns.map V.int) := by
    cases scr with
    | true => exact .inl (.inr ⟨o, by rw [Ha]; exact if_pos rfl⟩)
    | false =>
      cases hk : K.lookup a with
      | none =>
        rw [hk] at hscr
        exact nomatch hscr
      | some u =>
        have e := KX a u hk
        rw [ha] at e
        cases e
        exact .inr ⟨o, vs.toArray, 0, hk, by rw [← ho], by rw [← ho], by rw [← ho], by rw [List.size_toArray, hi.length]; exact hl, by simpa using vals⟩
  have e0 : Env0 P w K mg (hidT s₁.heap H) callerA [] s₁ H :=
    ⟨rfl, modH, fun b u e => of_hidT e, Nat.le_of_eq (hidT_size _ _), trivial, fun b hb => absurd (show b ∈ ([] : List Addr) from hb) List.not_mem_nil, held, .of_eq noG⟩
  refine codeAny_mono ((F _ kinH (nsH T.g) tabs).go callerA [] s₁ H ⟨[.ref a], []⟩ [.ref a] [.ref a] _ _ hr rfl e0 (hbind s₁ (.ref a)) (.cons rfl .nil) (hsp H (fun p hp => Ht p.2 (List.mem_map.mpr ⟨p, hp, rfl⟩)) seen)) fun res s2 h => ?_
  match res, h with
  | .error e, h => exact (hCX H e s2 h).elim
  | .ok .next, h => exact False.elim h
  | .ok .brk, h => exact False.elim h
  | .ok .cont, h => exact False.elim h
  | .ok (.ret u), h =>
    obtain ⟨v, H', os, bare, un, held', r', q'⟩ := h
    obtain rfl : v = .bl true := q'
    obtain rfl : u = Value.bool true := r'
    have stays : ∀ b u, b ∉ cs.map (·.2) → s₁.heap.get? b = some u → s2.heap.get? b = some u := fun b u nb e => by
      cases hb : H b with
      | none => exact un.keep b u e hb List.not_mem_nil List.not_mem_nil
      | some z =>
        rcases Hany b (by rw [hb]; exact fun z => nomatch z) with rfl | h2
        · rw [Ha] at hb
          cases scr with
          | false => exact nomatch hb
          | true =>
            have z2 := un.frzs b o (.lst (ns.map V.int)) (by rw [Ha]; exact if_pos rfl)
            have e2 := (held' b _ z2).1
            rw [ha] at e
            cases e
            exact e2
        · exact absurd h2 nb
    have grown : ∀ p ∈ cs, ∃ more : Array Value, s2.heap.get? p.2 = some { cls := .none, data := .fields more } := fun p hp => by
      obtain ⟨more, z⟩ := un.tbls p.2 #[] (Ht p.2 (List.mem_map.mpr ⟨p, hp, rfl⟩))
      exact ⟨_, held' p.2 _ z⟩
    refine ⟨rfl, ⟨fun b u e => ?_, fun b u e => ?_⟩, os, bare⟩
    · by_cases hb : b ∈ cs.map (·.2)
      · obtain ⟨p, hp, rfl⟩ := inT b hb
        obtain ⟨more, hm⟩ := grown p hp
        rw [(hT p hp).2] at e
        cases e
        exact .inr (.inl ⟨((hT p hp).1.tab (hT p hp).2).isCodeTable, rfl, #[], more, rfl, by rw [Array.empty_append]; exact hm⟩)
      · exact .inl (stays b u hb e)
    · by_cases hb : b ∈ cs.map (·.2)
      · obtain ⟨p, hp, rfl⟩ := inT b hb
        obtain ⟨more, hm⟩ := grown p hp
        exact ⟨_, hm⟩
      · exact ⟨u, stays b u hb e⟩
/-- what is asked of the law over the head -/
def LawIs (l : PySem.W.OpenLaw) (w : World) (K : PySem.W.Frag) (CX : CXT) (k : Nat) (x : Str) (mg : Str → Option Value) (fa : Addr) (h : Heap) : Prop :=
  ∃ (fd : FuncData) (cs : List (Addr × Addr)) (sp : Sp), (∀ p ∈ cs, PySem.W.CodeHd h p.1 p.2 ∧ h.get? p.2 = some { cls := .none, data := .fields #[] }) ∧ (∀ p ∈ cs, K.lookup p.2 = none) ∧ (∀ (s : Shared) (u : Value), BindsTo s fd ⟨[u], []⟩ [(x, u)]) ∧
    (∀ (H : Hp) (a : Addr) (ns : List Int), ns.length ≤ 63 → (∀ z ∈ ns, Builtin.Int.intBits z ≤ 1048576) → (∀ p ∈ cs, H p.2 = some (.tbl #[])) → SqL K H a (ns.map V.int) → sp [.ref a] H (fun v _ => v = .bl true) fun _ _ _ => False) ∧
    ∀ base : Heap, K.In base → base.Ns mainGlobals mg → (∀ p ∈ cs, GxR.TabB base mg p.1 p.2) → FnG l.prog w K mg base CX k fa fd [x] sp
theorem walk_g {l : PySem.W.OpenLaw} {k : Nat} {q : Program} {loose : List Str} {XP : (Str → Option Value) → Heap → Prop} {YP : World → Heap → Prop} {d : DefRec} {K : Params → PySem.W.Frag} {CX : World → CXT} {x : Str}
    (hn : l.most = some 63) (hdf : d.params.defaults = []) (hr : Room k callerA) (hY : ∀ (w : World) (h : Heap), YP w h → (K w.params).In h)
    (F : ∀ (w : World) (mg mb : Str → Option Value) (fa : Addr) (h : Heap) (loose : List Str) (mean : ExcName → Option Value), YP w h → (K w.params).In h → PyProof.Rows.Top q loose mean mg mb h → mg d.name = some (.ref fa) → LawIs l w (K w.params) (CX w) k x mg fa h)
    (hCX : ∀ (w : World) (H : Hp) (s : Shared) (e : Value) (s' : Shared), CX w [] H s (fun _ _ _ => False) e s' → False) :
    PySem.W.WalkO q loose XP YP l.row.toRowW d [] (fun f vs => PySem.call f vs) := by
  refine Att.attach_callB hn hdf fun w s₀ s₁ mg mb fa o pm cd doc a vs ns G Y ho hd hcd hmg hobj hints hlen hbits hg => ?_
  obtain ⟨fd, cs, sp, hT, nT, hb, hsp, hF⟩ := F w mg mb fa s₁.heap _ _ Y (hY w s₁.heap Y) G.T hmg
  exact law_go (hY w s₁.heap Y) G.T hg hT nT hobj hints (Nat.le_trans hlen (by decide)) hr hF hb (fun H hH hS => hsp H a ns hlen hbits hH hS) fun H e s' => hCX w H s₁ e s'
end Ap


/-! K2: rules that the layer lacks. -/
namespace Ap
open PySem L2 PySem.Spec PyProof.Rows
section
variable {X : Cx}
/-! ### a list beside the empty list, whatever it holds -/
def rEqE (K : PySem.W.Frag) : R2 := fun x y H Q => ∃ p q xs, x = .ref p ∧ y = .ref q ∧ SqL K H p xs ∧ SqL K H q [] ∧ Q (.bl xs.isEmpty) H
def rNeE (K : PySem.W.Frag) : R2 := fun x y H Q => ∃ p q xs, x = .ref p ∧ y = .ref q ∧ SqL K H p xs ∧ SqL K H q [] ∧ Q (.bl (!xs.isEmpty)) H
theorem isList_of {h : Heap} {a : Addr} {its : Array Value} (x : PlainL h a its) : h.IsList a its := by
  obtain ⟨o, n, e, c, _, d⟩ := x
  exact ⟨o, e, c, n, d⟩
theorem op_eqE (hu : X.A.units < cLine) : OpR X (compareOp .Eq) (rEqE X.K) := by
  intro pins s σ H x y v u Q I rx ry h
  obtain ⟨p, q, xs, rfl, rfl, h1, h2, k⟩ := h
  cases rx
  cases ry
  obtain ⟨its, r1, l1, _⟩ := I.list h1
  obtain ⟨its2, r2, l2, _⟩ := I.list h2
  cases r2
  cases r1 with
  | nil => exact SeqAt.eq_listAt (isList_of l1) (isList_of l2) rfl hu (e := fun _ => true) (fun j j1 _ => absurd j1 (by simp)) ⟨.bl _, H, I, rfl, k⟩
  | cons a b => exact SeqAt.eq_list_lengthsAt (isList_of l1) (isList_of l2) (by simp) hu ⟨.bl _, H, I, rfl, k⟩
theorem op_neE (hu : X.A.units < cLine) : OpR X (compareOp .NotEq) (rNeE X.K) := by
  intro pins s σ H x y v u Q I rx ry h
  obtain ⟨p, q, xs, rfl, rfl, h1, h2, k⟩ := h
  cases rx
  cases ry
  obtain ⟨its, r1, l1, _⟩ := I.list h1
  obtain ⟨its2, r2, l2, _⟩ := I.list h2
  cases r2
  cases r1 with
  | nil => exact (SeqAt.RcNeAt.lists (isList_of l1) (isList_of l2) rfl hu (e := fun _ => true) (fun j j1 _ => absurd j1 (by simp))) _ _ _ _ ⟨.bl _, H, I, rfl, k⟩
  | cons a b => exact (SeqAt.RcNeAt.lists_lengths (isList_of l1) (isList_of l2) (by simp) hu) _ _ _ _ ⟨.bl _, H, I, rfl, k⟩
theorem g_neE {K : PySem.W.Frag} {H : Hp} {Q : VK} {p q : Addr} {xs : List V} (e : H p = some (.lst xs)) (e2 : H q = some (.lst [])) (h : Q (.bl (!xs.isEmpty)) H) : rNeE K (.ref p) (.ref q) H Q := ⟨p, q, xs, rfl, rfl, SqL.of e, SqL.of e2, h⟩
theorem g_eqE {K : PySem.W.Frag} {H : Hp} {Q : VK} {p q : Addr} {xs : List V} (e : H p = some (.lst xs)) (e2 : H q = some (.lst [])) (h : Q (.bl xs.isEmpty) H) : rEqE K (.ref p) (.ref q) H Q := ⟨p, q, xs, rfl, rfl, SqL.of e, SqL.of e2, h⟩

/-! ### repr of data -/
mutual
theorem dp_plain {K : PySem.W.Frag} {H : Hp} : ∀ {d : PyData} {v : V}, Dp K H v d → d.hasDict = false
  | _, _, .non => by simp only [PyData.hasDict]
  | _, _, .bl b => by simp only [PyData.hasDict]
  | _, _, .int i => by simp only [PyData.hasDict]
  | _, _, .str x => by simp only [PyData.hasDict]
  | _, _, .lst _ a => by simp only [PyData.hasDict]; exact dpAll_plain a
  | _, _, .tup _ a => by simp only [PyData.hasDict]; exact dpAll_plain a
theorem dpAll_plain {K : PySem.W.Frag} {H : Hp} : ∀ {ds : List PyData} {vs : List V}, DpAll K H vs ds → PyData.hasDictAll ds = false
  | _, _, .nil => by simp only [PyData.hasDictAll]
  | _, _, .cons h t => by simp only [PyData.hasDictAll, dp_plain h, dpAll_plain t, Bool.or_self]
end
def rRep (K : PySem.W.Frag) : List V → Hp → VK → Prop := fun xs H Q => ∃ (p : Addr) (d : PyData), xs = [.ref p] ∧ Dp K H (.ref p) d ∧ d.showable = true ∧ d.depth < 60 ∧ d.shown.length ≤ sizeLine ∧ Q (.str d.shown) H
theorem cr_repr {k : Nat} (hr : Room k X.A) (hg : X.A.guards = some []) : CallR X (.builtin "repr") (rRep X.K) := by
  intro pins s σ H xs us Q I r h
  obtain ⟨p, d, rfl, hd, hs, hdp, hz, q⟩ := h
  obtain ⟨u, rfl, rx⟩ := vals1 r
  cases rx
  obtain ⟨as, rd⟩ := Dp.reads I d (.ref p) (.ref p) hd rfl
  have hu := hr.units
  exact repr_of_reads' rd hs (PyData.noDict_hsm (dp_plain hd)) hg (by omega) (fun _ _ e => e) (fun h' u tk kp => ⟨.str d.shown, H, I.kept kp, ⟨u, rfl⟩, q⟩) hz
theorem g_repr {K : PySem.W.Frag} {H : Hp} {Q : VK} {p : Addr} {d : PyData} (hd : Dp K H (.ref p) d) (hs : d.showable = true) (hdp : d.depth < 60) (hz : d.shown.length ≤ sizeLine) (h : Q (.str d.shown) H) : rRep K [.ref p] H Q := ⟨p, d, rfl, hd, hs, hdp, hz, h⟩
end
end Ap


/-! KQ: code that leaves every object as it is (what a generator expression asks of its element). -/
namespace Ap
open PySem L2 PySem.Spec PyProof.Rows
structure Gd (K : PySem.W.Frag) (mg : Str → Option Value) (h : Heap) : Prop where
  kin : K.In h
  ns : h.Ns mainGlobals mg
  blt : ∃ mb, h.Ns builtinsNs mb ∧ ∀ x : Str, x ≠ "__name__" → mb x = bootBuiltins x
  lim : h.NoLimit
abbrev Stays (h h' : Heap) : Prop := ∀ b o, h.get? b = some o → h'.get? b = some o
theorem Gd.keeps {K : PySem.W.Frag} {mg : Str → Option Value} {h h' : Heap} (g : Gd K mg h) (k : Stays h h') : Gd K mg h' :=
  ⟨g.kin.keeps k, g.ns.keeps k, let ⟨mb, a, b⟩ := g.blt; ⟨mb, a.keeps k, b⟩, let ⟨mc, a, b⟩ := g.lim; ⟨mc, a.keeps k, b⟩⟩
theorem kst {s s' : Shared} (k : Keeps s s') : Stays s.heap s'.heap := by
  obtain ⟨h, t, rfl, q⟩ := k
  exact q
theorem ktr {s s' s'' : Shared} (a : Keeps s s') (b : Keeps s' s'') : Keeps s s'' := by
  obtain ⟨h, t, rfl, q⟩ := a
  obtain ⟨h2, t2, rfl, q2⟩ := b
  exact ⟨h2, t2, rfl, fun x o e => q2 x o (q x o e)⟩
theorem kat (s : Shared) (t : Nat) : Keeps s { s with toks := t } := ⟨s.heap, t, rfl, fun _ _ e => e⟩
/-- an expression's value in a frame that runs; good: what is known of the heap, kept where objects are kept -/
structure Qx where
  P : Program
  w : World
  K : PySem.W.Frag
  mg : Str → Option Value
  env : Env
  A : Around
  good : Heap → Prop
structure Qx.Ok (X : Qx) : Prop where
  gd : ∀ h, X.good h → Gd X.K X.mg h
  kp : ∀ h h', X.good h → Stays h h' → X.good h'
  kind : X.env.scope.kind = .function
  glob : X.env.globals = mainGlobals
  blt : X.env.builtins = builtinsNs
/-- e has a value of which R holds -/
def QE (X : Qx) (e : Expr) (R : Value → Prop) : Prop := ∀ (E : Value → Shared → Prop) (s : Shared), X.good s.heap → wpAny (model X.P X.w) X.A (eval e X.env) (fun u s' => R u ∧ Keeps s s') E s
section
variable {X : Qx} {e : Expr} {x : Str} {p pos : Pos} {u : Value} {R : Value → Prop}
theorem q_loc (ok : X.Ok) (hk : X.env.kindOf x = some .local) (h : ∀ h, X.good h → ∃ m, h.Ns X.env.locals m ∧ m x = some u) (r : R u) (hd : (x == ("__debug__" : Str)) = false := by decide) : QE X (.Name x pos) R := fun E s g => by
  obtain ⟨m, n, e⟩ := h s.heap g
  exact wpAny_Name (wpAny_loadName_local ok.kind hk n e ⟨r, kat s s.toks⟩) hd
theorem q_free (ok : X.Ok) {c : Addr} (hk : X.env.kindOf x = some .free) (hc : X.env.cells.lookup x = some c) (h : ∀ h, X.good h → h.IsCell c (some u)) (r : R u) (hd : (x == ("__debug__" : Str)) = false := by decide) (hcd : (x == ("__classdict__" : Str)) = false := by decide) : QE X (.Name x pos) R := fun E s g =>
  wpAny_Name (wpAny_loadName_free ok.kind hk hc (h s.heap g) ⟨r, kat s s.toks⟩ hcd) hd
theorem q_int {i : Int} {j : Nat} (r : ∀ t, R (.int i t)) : QE X (.Constant (.int i) j pos) R := fun E s g => wpAny_Constant_int ⟨r _, kat s _⟩
/-- isinstance(e, T) -/
theorem q_isi (ok : X.Ok) {b : Bool} {T T' : String} {x' : Str} {Pv : Heap → Prop} {p2 : Pos} (he : QE X e (· = u)) (Z : PySem.W.KitX X.K u (.type T') Pv) (hP : ∀ h, X.good h → Pv h) (k : kitB T' T = some b) (hx : u ≠ .builtin "__main__.__loader__#opaque")
    (g1 : X.env.kindOf "isinstance" = some .globalImplicit) (m1 : X.mg "isinstance" = none) (g2 : X.env.kindOf x' = some .globalImplicit) (m2 : X.mg x' = none) (v2 : bootBuiltins x' = some (.type T)) (r : R (.bool b)) (n2 : x' ≠ "__name__" := by decide) (d2 : (x' == ("__debug__" : Str)) = false := by decide)
    (h1 : starEach [e, .Name x' p2] X.env = (false, eval e X.env) :: starEach [.Name x' p2] X.env := by rfl) (h2 : starEach [.Name x' p2] X.env = (false, eval (.Name x' p2) X.env) :: starEach [] X.env := by rfl) :
    QE X (.Call (.Name "isinstance" p) [e, .Name x' p2] [] pos) R := fun E s g => by
  obtain ⟨mb, b1, b2⟩ := (ok.gd _ g).blt
  refine wpAny_Call_Name_kw (Calls.Name_function_global ok.kind g1 (Calls.loadGlobal_builtin (by rw [ok.glob]; exact (ok.gd _ g).ns) m1 (by rw [ok.blt]; exact b1) ((b2 _ (by decide)).trans boot_isinstance) ?_) (by decide))
  refine PyProof.Rows.callWith_builtin1 ?_ h1 (by rfl)
  rw [h1]
  refine Calls.spliced_cons (thn (he E s g) fun v s1 ⟨ev, k1⟩ => ?_)
  subst ev
  have g' := ok.kp _ _ g (kst k1)
  obtain ⟨mb', c1, c2⟩ := (ok.gd _ g').blt
  rw [h2]
  refine Calls.spliced_cons (Calls.Name_function_global ok.kind g2 (Calls.loadGlobal_builtin (by rw [ok.glob]; exact (ok.gd _ g').ns) m2 (by rw [ok.blt]; exact c1) ((c2 _ n2).trans v2) ?_) d2)
  refine Calls.spliced_nil ?_
  exact PySem.W.kia_one Z (ok.gd _ g').kin (hP _ g') (kit_ty k) hx fun tk => ⟨r, ktr k1 (kat s1 tk)⟩
theorem q_not {a : Bool} (he : QE X e (· = .bool a)) (r : R (.bool (!a))) : QE X (.UnaryOp .Not e pos) R := fun E s g =>
  UnaryOp_ (thn (he E s g) fun v s1 ⟨ev, k1⟩ => by subst ev; exact not_of (wpAny_truthy_bool ⟨r, k1⟩))
theorem q_and {a : Bool} {e' : Expr} (ok : X.Ok) (he : QE X e (· = .bool a)) (h1 : a = true → QE X e' R) (h0 : a = false → R (.bool false)) : QE X (.BoolOp .And [e, e'] pos) R := fun E s g => by
  refine BoolOp_and (thn (he E s g) fun v s1 ⟨ev, k1⟩ => ?_)
  subst ev
  refine wpAny_truthy_bool ?_
  cases a with
  | true => exact BoolOp_one (thn (h1 rfl E s1 (ok.kp _ _ g (kst k1))) fun v s2 ⟨r, k2⟩ => ⟨r, ktr k1 k2⟩)
  | false => exact ⟨h0 rfl, k1⟩
/-- a call of a def of the text -/
def QF (P : Program) (w : World) (K : PySem.W.Frag) (mg : Str → Option Value) (d : Nat) (f : Addr) (us : List Value) (pre : Heap → Prop) (R : Value → Prop) : Prop :=
  ∀ (A : Around) (E : Value → Shared → Prop) (s : Shared), A.handled = none → A.depth + d < recursionLimit → Gd K mg s.heap → pre s.heap → wpAny (model P w) A (call (.ref f) us) (fun y s' => R y ∧ Keeps s s') E s
theorem q_call1 (ok : X.Ok) {d : Nat} {f : Addr} {u : Value} {pre : Heap → Prop} (hd : X.A.handled = none) (hdp : X.A.depth + d < recursionLimit) (F : QF X.P X.w X.K X.mg d f [u] pre R) (hp : ∀ h, X.good h → pre h) (g1 : X.env.kindOf x = some .globalImplicit) (hm : X.mg x = some (.ref f)) (hk : PySem.W.keepIn X.K (.ref f) = true) (he : QE X e (· = u))
    (hdb : (x == ("__debug__" : Str)) = false := by decide) (h1 : starEach [e] X.env = (false, eval e X.env) :: starEach [] X.env := by rfl) : QE X (.Call (.Name x p) [e] [] pos) R := fun E s g => by
  refine wpAny_Call_Name_kw (Calls.Name_function_global ok.kind g1 (Calls.loadGlobal_global (by rw [ok.glob]; exact (ok.gd _ g).ns) hm ?_) hdb)
  refine PySem.W.callWith_K (ok.gd _ g).kin hk ?_ h1 (by rfl)
  rw [h1]
  refine Calls.spliced_cons (thn (he E s g) fun v s1 ⟨ev, k1⟩ => ?_)
  subst ev
  have g' := ok.kp _ _ g (kst k1)
  exact Calls.spliced_nil ⟨(ok.gd _ g').kin, thn (F X.A E s1 hd hdp (ok.gd _ g') (hp _ g')) fun y s2 ⟨r, k2⟩ => ⟨r, ktr k1 k2⟩⟩
theorem q_call2 (ok : X.Ok) {d : Nat} {f : Addr} {e2 : Expr} {u u2 : Value} {pre : Heap → Prop} (hd : X.A.handled = none) (hdp : X.A.depth + d < recursionLimit) (F : QF X.P X.w X.K X.mg d f [u, u2] pre R) (hp : ∀ h, X.good h → pre h) (g1 : X.env.kindOf x = some .globalImplicit) (hm : X.mg x = some (.ref f)) (hk : PySem.W.keepIn X.K (.ref f) = true) (he : QE X e (· = u)) (he2 : QE X e2 (· = u2))
    (hdb : (x == ("__debug__" : Str)) = false := by decide) (h1 : starEach [e, e2] X.env = (false, eval e X.env) :: starEach [e2] X.env := by rfl) (h2 : starEach [e2] X.env = (false, eval e2 X.env) :: starEach [] X.env := by rfl) : QE X (.Call (.Name x p) [e, e2] [] pos) R := fun E s g => by
  refine wpAny_Call_Name_kw (Calls.Name_function_global ok.kind g1 (Calls.loadGlobal_global (by rw [ok.glob]; exact (ok.gd _ g).ns) hm ?_) hdb)
  refine PySem.W.callWith_K (ok.gd _ g).kin hk ?_ h1 (by rw [h2]; rfl)
  rw [h1, h2]
  refine Calls.spliced_cons (thn (he E s g) fun v s1 ⟨ev, k1⟩ => ?_)
  subst ev
  have g1' := ok.kp _ _ g (kst k1)
  refine Calls.spliced_cons (thn (he2 E s1 g1') fun v s2 ⟨ev, k2⟩ => ?_)
  subst ev
  have g' := ok.kp _ _ g1' (kst k2)
  exact Calls.spliced_nil ⟨(ok.gd _ g').kin, thn (F X.A E s2 hd hdp (ok.gd _ g') (hp _ g')) fun y s3 ⟨r, k3⟩ => ⟨r, ktr (ktr k1 k2) k3⟩⟩
/-- a <= b <= c of whole numbers -/
theorem q_le2 (ok : X.Ok) {a b c : Expr} {i j k : Int} (ha : QE X a (fun v => ∃ t, v = .int i t)) (hb : QE X b (fun v => ∃ t, v = .int j t)) (hc : QE X c (fun v => ∃ t, v = .int k t)) (r : R (.bool (decide (i ≤ j) && decide (j ≤ k))))
    (hm : lastMarks [.LtE, .LtE] [b, c] = false := by with_unfolding_all rfl) : QE X (.Compare a [.LtE, .LtE] [b, c] pos) R := fun E s g => by
  refine Compare_chain (thn (ha E s g) fun v s1 ⟨⟨t, ev⟩, k1⟩ => chain_link (thn (hb E s1 (ok.kp _ _ g (kst k1))) fun v' s2 ⟨⟨t', ev'⟩, k2⟩ => ?_)) hm
  subst ev ev'
  refine le_int ?_
  refine wpAny_truthy_bool ?_
  have g2 := ok.kp _ _ (ok.kp _ _ g (kst k1)) (kst k2)
  cases h1 : decide (i ≤ j) with
  | false =>
    rw [h1] at r
    exact PyProof.Rows.ite_ff ⟨r, ktr k1 k2⟩
  | true =>
    rw [h1] at r
    refine PyProof.Rows.ite_tt (chain_last (thn (hc E s2 g2) fun w' s3 ⟨⟨t3, e3⟩, k3⟩ => ?_))
    subst e3
    exact le_int ⟨r, ktr (ktr k1 k2) k3⟩
/-- the frame of a def's body, its parameters' values known -/
def bq (P : Program) (w : World) (K : PySem.W.Frag) (mg : Str → Option Value) (ps : List Str) (us : List Value) (pre : Heap → Prop) (env : Env) (B : Around) : Qx :=
  ⟨P, w, K, mg, env, B, fun h => Gd K mg h ∧ pre h ∧ ∃ m, h.Ns env.locals m ∧ ∀ y v, (y, v) ∈ ps.zip us → m y = some v⟩
section
variable {P : Program} {w : World} {K : PySem.W.Frag} {mg : Str → Option Value} {ps : List Str} {us : List Value} {pre : Heap → Prop} {env : Env} {B : Around} {sc : Scope}
theorem bq_ok (hpre : ∀ h h', pre h → Stays h h' → pre h') (e1 : env.scope = sc) (hk : sc.kind = .function) (e2 : env.globals = mainGlobals) (e3 : env.builtins = builtinsNs) : (bq P w K mg ps us pre env B).Ok :=
  ⟨fun _ g => g.1, fun h h' g k => ⟨g.1.keeps k, hpre h h' g.2.1 k, let ⟨m, a, b⟩ := g.2.2; ⟨m, a.keeps k, b⟩⟩, by show env.scope.kind = _; rw [e1]; exact hk, e2, e3⟩
theorem bq_par {y : Str} {v : Value} {p : Pos} (ok : (bq P w K mg ps us pre env B).Ok) (e1 : env.scope = sc) (hk : sc.names.lookup y = some .local) (m : (y, v) ∈ ps.zip us) (hd : (y == ("__debug__" : Str)) = false := by decide) : QE (bq P w K mg ps us pre env B) (.Name y p) (· = v) :=
  q_loc ok (by show env.scope.names.lookup _ = _; rw [e1]; exact hk) (fun h g => let ⟨n, a, b⟩ := g.2.2; ⟨n, a, b y v m⟩) rfl hd
theorem bq_glob {y : Str} (e1 : env.scope = sc) (hk : sc.names.lookup y = some .globalImplicit) : (bq P w K mg ps us pre env B).env.kindOf y = some .globalImplicit := by
  show env.scope.names.lookup _ = _
  rw [e1]; exact hk
end
/-- a def whose body is one return -/
theorem qf_ret {P : Program} {w : World} {K : PySem.W.Frag} {mg : Str → Option Value} {d : Nat} {f : Addr} {fd : FuncData} {qual : Str} {st : Stmt} {ps : List Str} {us : List Value} {pre : Heap → Prop} {e : Expr} {rp : Pos} (F : Fun K x qual st f fd) (hkd : (defScope st).kind = .function) (hco : (defScope st).isCoroutine = false) (hge : (defScope st).isGenerator = false)
    (hloc : ∀ y ∈ ps, (defScope st).names.lookup y = some .local) (hb : Binds K fd ps []) (hl : us.length = ps.length) (hbd : defBody st = [.Return (some e) rp]) (hpre : ∀ h h', pre h → Stays h h' → pre h')
    (body : ∀ (B : Around) (env : Env), B.handled = none → B.depth + d < recursionLimit → env.scope = defScope st → env.globals = mainGlobals → env.builtins = builtinsNs →
      QE (bq P w K mg ps us pre env B) e R) (nd : ps.Nodup) : QF P w K mg (d + 1) f us pre R := by
  intro A E s hd hdp g hp
  obtain ⟨oc, od, kV, doc, pm, an, cdv, ct, osl, rfl, lk, hcd⟩ := F.ex
  have hb' := hb s us g.kin (by simpa using hl)
  rw [List.append_nil] at hb'
  refine wpAny_call (codeAny_call_function (by omega) (g.kin f _ lk) rfl hco hge rfl (PySem.W.codeRec_of g.kin hcd) (hb' _ _ _ _ ?_))
  refine wpAny_newFunctionEnv_cells hkd (fun y hy => .inl (hloc _ (List.of_mem_zip (show (y.1, y.2) ∈ ps.zip us from hy)).1)) fun env he s1 inc => ?_
  subst he
  obtain ⟨h1, tk, rfl, hk⟩ := inc.done
  refine ⟨g.lim.keeps hk, codeAny_func ?_⟩
  rw [hbd]
  refine wpAny_execs_cons (wpAny_Return_some ?_)
  have hB := body (A.deeper (envOfC qual (defScope st) s.heap.objs.size f cdv)) (envOfC qual (defScope st) s.heap.objs.size f cdv) hd (by show A.depth + 1 + d < _; omega) rfl rfl rfl
  refine thn (hB _ { s with heap := h1, toks := tk } ⟨g.keeps hk, hpre _ _ hp hk, _, inc.toInCall.ns, fun y v hy => ?_⟩) fun u s2 ⟨r, k⟩ => ⟨r, ktr ⟨h1, tk, rfl, hk⟩ k⟩
  obtain ⟨i, hi, ei⟩ := List.getElem_of_mem hy
  rw [List.getElem_zip] at ei
  have hz := hi
  rw [List.length_zip] at hz
  have i1 : i < ps.length := by omega
  have i2 : i < us.length := by omega
  have h1 : ps[i]? = some y := (List.getElem?_eq_getElem i1).trans (congrArg some (Prod.mk.inj ei).1)
  have h2 : us[i]? = some v := (List.getElem?_eq_getElem i2).trans (congrArg some (Prod.mk.inj ei).2)
  exact bindL_get nd h1 h2 (hloc y (List.mem_of_getElem? h1))
end
end Ap


/-! KA: all(elt for x in a list), the element code that leaves every object as it is. -/
namespace Ap
open PySem L2 PySem.Spec PyProof.Rows
/-- the frame of a generator expression's element, x bound to v; h1: the heap in which it was made -/
def qxOf (X : Cx) (scope : Scope) (x : Str) (P : Addr) (h1 : Heap) (C : Addr) (code : Value) (v : Value) (A : Around) : Qx where
  P := X.prog
  w := X.w
  K := X.K
  mg := X.mg
  env := genEnv scope (cloFrom X.env.cells scope.names []) C code builtinsNs X.env
  A := A
  good := fun h => Gd X.K X.mg h ∧ (∀ b o, b ≠ P → h1.get? b = some o → h.get? b = some o) ∧ ∃ m, h.Ns C m ∧ m x = some v
theorem qxOf_ok {X : Cx} (gl : X.env.globals = mainGlobals) {scope : Scope} (hk : scope.kind = .function) {x : Str} {P : Addr} {h1 : Heap} {C : Addr} {code v : Value} {A : Around} : (qxOf X scope x P h1 C code v A).Ok where
  gd := fun h g => g.1
  kp := fun h h' g k => ⟨g.1.keeps k, fun b o n e => k b o (g.2.1 b o n e), let ⟨m, a, e⟩ := g.2.2; ⟨m, a.keeps k, e⟩⟩
  kind := hk
  glob := gl
  blt := rfl
/-- what the element is at the item w: the answer y fits R w -/
def EltL (X : Cx) (scope : Scope) (x : Str) (P : Addr) (elt : Expr) (Cn : L2.St → Hp → V → (Value → Prop) → Prop) : Prop :=
  ∀ (pins : List (Addr × Obj)) (σ : L2.St) (H : Hp) (s : Shared), Inv X pins σ H s → (∃ ps, H P = some (.tbl ps)) → ∀ (w : V) (R : Value → Prop), Cn σ H w R → ∀ (u : Value), RelV w u → ∀ (C : Addr) (code : Value) (A : Around), A.handled = none → A.depth ≤ X.A.depth + 1 → A.units ≤ X.A.units + 8 →
    QE (qxOf X scope x P s.heap C code u A) elt R
section
variable {X : Cx} {pins : List (Addr × Obj)} {σ : L2.St} {H : Hp} {s : Shared}
/-- the generator g over the list ws, ready to be walked, in the state s5; H1: what was held before -/
def ReadyL (X : Cx) (pins : List (Addr × Obj)) (σ : L2.St) (H1 : Hp) (P : Addr) (ws : List V) (RR : Nat → Value → Prop) (g : Addr) (s5 : Shared) : Prop :=
  ∃ (fp wr : List Addr) (G : Array GenState → Array GenState → Prop) (F : Nat → Value → Prop) (St : Nat → Shared → Prop),
    WalksS X.prog X.w X.A.in4 g fp wr G ws.length F St ∧ St 0 s5 ∧ (∀ j v, F j v → j < ws.length ∧ RR j v) ∧
    ∀ s', Moved wr G s5 s' → ∃ H2, GxR.Tabbed P H1 H2 ∧ Inv X pins σ H2 s'
theorem gen_any {c P : Addr} {elt iter : Expr} {x : Str} {px gpos : Pos} {scope : Scope} {te : TE} {k : Nat} {Q' : Value → Shared → Prop} {Cn : L2.St → Hp → V → (Value → Prop) → Prop} {Rst : List V → (Nat → Value → Prop) → Hp → Prop}
    (hr : Room k X.A) (TB : GxR.TabB X.base X.mg c P) (hcode : X.env.code = .ref c) (S : GxR.GenS X.env scope x) (hi : PE X iter te) (hel : EltL X scope x P elt Cn)
    (hs : ∀ v, genFold iter X.env v = pure v) (I : Inv X pins σ H s)
    {Post : V → Hp → Prop} (h : te σ H Post)
    (hp : ∀ v H1, Post v H1 → ∃ (yl : Addr) (ws : List V) (RR : Nat → Value → Prop), v = .ref yl ∧ SqL X.K H1 yl ws ∧ (∀ i w, ws[i]? = some w → Cn σ H1 w (RR i)) ∧ GxR.TabG H1 P ∧ Rst ws RR H1)
    (hQ : ∀ ws RR H1 g s5, Rst ws RR H1 → ReadyL X pins σ H1 P ws RR g s5 → Q' (.ref g) s5) :
    wpAny (model X.prog X.w) X.A (eval (.GeneratorExp elt [⟨.Name x px, iter, [], 0⟩] scope gpos) X.env) Q' X.xe s := by
  refine wpAny_GeneratorExp_walksQD hr.hd S.co (closure_ok S.free) S.cell S.dot S.loc S.kind (by have := hr.dp; omega) ?_ hs
  refine thn (hi.run pins s σ H _ I h) fun xv s1 ⟨v, H1, I1, r1, q1⟩ => ?_
  obtain ⟨yl, ws, RR, rfl, hyl, hCn, ⟨ps, hP, ht⟩, q1⟩ := hp v H1 q1
  obtain rfl : xv = Value.ref yl := r1
  obtain ⟨its, rv, hl, hz⟩ := I1.list hyl
  have hIL := hl.isList
  have hlen : its.length = ws.length := rv.length.symm
  refine wpAny_pyIter_list hIL ?_
  generalize ho : ({ cls := .type "list_iterator", data := .fields #[.ref yl, .int 0 0] } : Obj) = o
  have hitr : (s1.heap.push o).IsListIter s1.heap.objs.size yl 0 := by
    subst ho
    exact ⟨_, Heap.get?_push_size _ rfl, rfl, rfl⟩
  have hylt : yl < s1.heap.objs.size := by
    obtain ⟨_, e, _⟩ := _root_.id hIL
    exact Heap.lt_size e
  have hPs : s1.heap.get? P = some { cls := .none, data := .fields ps } := I1.hok P _ hP
  have hPlt : P < s1.heap.objs.size := Heap.lt_size hPs
  have hP2 : (s1.heap.push o).get? P = some { cls := .none, data := .fields ps } := Heap.get?_push_of_some _ hPs
  have cd : PySem.W.CodeHd (s1.heap.push o) c P := TB.code.keeps fun b u e => Heap.get?_push_of_some _ (I1.bk b u e)
  have lim2 : (s1.heap.push o).NoLimit := I1.nolimit.push o
  have cont : ∀ (code : Value) (h3 : Heap) (tk : Nat) (ps' : Array Value), Heap.ExtBut P (s1.heap.push o) h3 → (s1.heap.push o).objs.size ≤ h3.objs.size → h3.get? P = some { cls := .none, data := .fields ps' } → (∃ more, ps' = ps ++ more) → TriplesOk ps'.toList →
      wpAny (model X.prog X.w) X.A (builtinsFor X.env.globals X.env.builtins) (fun bi s₄ =>
        ∃ Ia fp wr n₀ Pf St₀ pz F, Value.ref s1.heap.objs.size = .ref Ia ∧ (∀ A' : Around, A'.handled = none → Walks X.prog X.w A' Ia fp wr n₀ Pf St₀) ∧ St₀ 0 s₄.heap ∧ (∀ b ∈ fp, b < s₄.heap.objs.size) ∧ s₄.heap.NoLimit ∧ cStatics ∉ wr ∧
          (∀ href : Heap, (∀ b o, s₄.heap.get? b = some o → href.get? b = some o) →
            QuietGenD X.prog X.w (genEnv scope (cloFrom X.env.cells scope.names []) s₄.heap.objs.size code bi X.env) x [] elt (List.range s₄.heap.objs.size) wr Pf pz F href (X.A.depth + 1) (X.A.units + 8)) ∧
          (∀ a h₅ tk gs, gs.bare = true → s₄.heap.objs.size < a → h₅.objs.size = a + 1 → (∀ b o, s₄.heap.get? b = some o → h₅.get? b = some o) →
            WalksS X.prog X.w X.A.in4 a (a :: s₄.heap.objs.size :: List.range s₄.heap.objs.size) (s₄.heap.objs.size :: wr) (GenOnlyQ s₄.gens.size) (passing pz n₀ 0).length
              (fun j y => ∃ i, (passing pz n₀ 0)[j]? = some i ∧ F i y) (GenAt X.prog X.w X.A.in4 a s₄.gens.size s₄.heap.objs.size (List.range s₄.heap.objs.size) wr pz n₀ F) →
            GenAt X.prog X.w X.A.in4 a s₄.gens.size s₄.heap.objs.size (List.range s₄.heap.objs.size) wr pz n₀ F 0 { s₄ with gens := s₄.gens.push gs, toks := tk, heap := h₅ } →
            Q' (.ref a) { s₄ with gens := s₄.gens.push gs, toks := tk, heap := h₅ })) X.xe { s1 with heap := h3, toks := tk } := by
    intro code h3 tk ps' hx hsz hP3 hmore ht3
    obtain ⟨bm, ob, e1, e2, e3, e4, e5, e6, e7, e8⟩ := TB.bm
    have hcP : cStatics ≠ P := fun e => by
      obtain ⟨_, hns, _⟩ := I1.nolimit
      obtain ⟨o', es, ep, ho, hd, _⟩ := hns
      rw [e, hPs] at ho
      cases ho
      cases hd
    have hcl : cStatics < s1.heap.objs.size := let ⟨_, hns, _⟩ := I1.nolimit; hns.lt
    have sz2 : (s1.heap.push o).objs.size = s1.heap.objs.size + 1 := Heap.size_push ..
    have keep3 : ∀ b u, b ≠ P → s1.heap.get? b = some u → h3.get? b = some u := fun b u hb e => hx b u hb (Heap.get?_push_of_some _ e)
    refine wpAny_builtinsFor (m := X.mg) (by rw [I1.ok.glob]; exact ((I1.mod.glob.keeps I1.bk).push o).extBut hx TB.gP) e1 e2 (keep3 _ _ e4 (I1.bk _ _ e5)) e6 e7 e8 ?_
    have hylP : yl ≠ P := fun z => by
      obtain ⟨_, e, hc1, _, hd1⟩ := _root_.id hIL
      rw [z, hPs] at e
      cases e
      cases hd1
    have hIL3 : h3.IsList yl its.toArray := by
      obtain ⟨ob, e, r⟩ := _root_.id hIL
      exact ⟨ob, keep3 _ _ hylP e, r⟩
    have hItr3 : h3.IsListIter s1.heap.objs.size yl 0 := hitr.at fun u e => hx _ u (Nat.ne_of_gt hPlt) e
    have szh : s1.heap.objs.size < h3.objs.size := by omega
    refine ⟨s1.heap.objs.size, [s1.heap.objs.size, yl], [s1.heap.objs.size], its.toArray.size, (fun i v => its.toArray[i]? = some v), (fun i h => h.IsListIter s1.heap.objs.size yl i ∧ h.IsList yl its.toArray), (fun _ => true),
      (fun i y => RR i y), rfl, (fun A' hA => Walks.list hA _ _ (Nat.ne_of_lt hylt) _), ⟨hItr3, hIL3⟩, ?_, lim2.extBut hx hcP, ?_, ?_, ?_⟩
    · intro b hb
      rcases List.mem_cons.mp hb with z | z
      · rw [z]; exact szh
      · rcases List.mem_cons.mp z with z | z
        · rw [z]; exact Nat.lt_trans hylt szh
        · cases z
    · intro z
      rcases List.mem_cons.mp z with z | z
      · exact Nat.ne_of_lt hcl z
      · cases z
    · intro href hhref
      refine ⟨fun A' E' i v s₂ m₂ hA _ _ hPv hn hm hk => ?_, fun A' E' i v s₂ m₂ hA hD hU hPv hp hn hm hk => ?_⟩
      · simp only [List.forIn_nil]
        exact wpAny_pure ⟨rfl, GxR.keeps_refl _⟩
      · have hv2 : its[i]? = some v := by simpa using hPv
        have hi2 : i < its.length := (List.getElem?_eq_some_iff.mp hv2).1
        obtain ⟨w, hw⟩ : ∃ w, ws[i]? = some w := ⟨ws[i]'(by omega), List.getElem?_eq_getElem _⟩
        obtain ⟨u, hu, ru⟩ := rv.get hw
        rw [hv2] at hu
        cases hu
        have all1 : ∀ b o, b ≠ P → s1.heap.get? b = some o → s₂.heap.get? b = some o := fun b o hb e => by
          have hl := Heap.lt_size e
          refine hk b (List.mem_range.mpr (Nat.lt_trans hl szh)) (fun z => ?_) o (hhref b o (keep3 b o hb e))
          rcases List.mem_cons.mp z with z | z
          · rw [z] at hl
            exact Nat.lt_irrefl _ hl
          · cases z
        have bs : ∀ b o, X.base.get? b = some o → s₂.heap.get? b = some o := fun b o e => all1 b o (fun z => by
          have := (I1.bs b o e).2
          rw [z, hP] at this
          cases this) (I1.bk b o e)
        refine hel pins σ H1 s1 I1 ⟨ps, hP⟩ w (RR i) (hCn i w hw) v ru h3.objs.size code A' hA hD hU E' s₂ ⟨⟨?_, ?_, ?_, ?_⟩, all1, m₂, hn, hm⟩
        · exact I1.mod.kin.keeps bs
        · exact I1.mod.glob.keeps bs
        · obtain ⟨mb, a, b⟩ := I1.mod.blt
          exact ⟨mb, a.keeps bs, b⟩
        · exact I1.mod.nolimit.keeps bs
    · intro g h5 tk5 gs hgb hag hsz5 hk5 W5 hgat
      simp only [GxR.passing_true, List.length_range] at W5
      have hn5 : its.toArray.size = ws.length := by rw [List.size_toArray, hlen]
      rw [hn5] at W5 hgat
      refine hQ ws RR H1 g _ q1 ⟨_, _, _, _, _, W5, hgat, ?_, fun s' hm => ?_⟩
      · intro j v hv
        obtain ⟨i, hij, hF⟩ := hv
        obtain ⟨hj, ej⟩ := List.getElem?_eq_some_iff.mp hij
        rw [List.getElem_range] at ej
        subst ej
        rw [List.length_range] at hj
        exact ⟨by omega, hF⟩
      · obtain ⟨more, em⟩ := hmore
        have nwr : ∀ b u, s1.heap.get? b = some u → b ∉ h3.objs.size :: [s1.heap.objs.size] := fun b u e hb => by
          have hl := Heap.lt_size e
          rcases List.mem_cons.mp hb with z | z
          · rw [z] at hl
            have h9 : (h3.objs.size : Nat) < s1.heap.objs.size := hl
            omega
          · rcases List.mem_cons.mp z with z | z
            · rw [z] at hl
              exact Nat.lt_irrefl _ hl
            · cases z
        have J := GxR.inv_tab (more := more) (h' := s'.heap) (g' := s'.gens) (d' := s'.drawn) (t' := s'.toks) I1 hP (fun b u hb e => hm.heap b u (nwr b u e) (hk5 b u (keep3 b u hb e)))
          (by rw [← em]; exact hm.heap P _ (nwr P _ hPs) (hk5 P _ hP3)) (AllBare.movedS (I1.bare.push hgb) hm)
        rw [GxR.sh_eta s1 s' hm.os] at J
        refine ⟨upd H1 P (.tbl (ps ++ more)), ⟨⟨ps ++ more, upd_same, by rw [← em]; exact ht3⟩, fun b hb => upd_ne hb⟩, J⟩
  refine ⟨lim2, ?_⟩
  cases hf : codeAmong gpos ps.toList with
  | none =>
    refine wpAny_genexprCodeX hcode (cd.code hP2 ht) (cd.tab hP2) hf fun c' h' tk hx hge hlt hco' _ htab' _ => ?_
    obtain ⟨o1, vs, f1, tf, fl, tg, inF, tx, tt, op, _, _, _, _, _, _, _, _, _, htr, _⟩ := hco'
    exact cont _ h' tk _ hx (Nat.le_trans hge (Nat.le_of_lt hlt)) htab'.2 ⟨_, rfl⟩ htr
  | some cv =>
    refine wpAny_genexprCode_hit hcode (cd.code hP2 ht) hf ?_
    exact cont cv (s1.heap.push o) s1.toks ps (Heap.ExtBut.refl _ _) (Nat.le_refl _) hP2 ⟨#[], by simp⟩ ht
/-- at place j -/
def trL (pb : V → Bool) (l : List V) (j : Nat) : Bool := match l[j]? with
  | some w => pb w
  | none => false
theorem all_trL (l : List V) (pb : V → Bool) : (List.range l.length).all (trL pb l) = l.all pb := by
  rw [Bool.eq_iff_iff, List.all_eq_true, List.all_eq_true]
  constructor
  · intro h b hb
    obtain ⟨j, hj, e⟩ := List.getElem_of_mem hb
    have q := h j (List.mem_range.mpr hj)
    unfold trL at q
    rw [List.getElem?_eq_getElem hj, e] at q
    exact q
  · intro h j hj
    have hj' := List.mem_range.mp hj
    unfold trL
    rw [List.getElem?_eq_getElem hj']
    exact h _ (List.getElem_mem hj')
/-- all(elt for x in e) -/
def tAllL (K : PySem.W.Frag) (P : Addr) (Cn : L2.St → Hp → V → (Value → Prop) → Prop) (te : TE) : TE := fun σ H Q => te σ H fun v H1 => ∃ (yl : Addr) (ws : List V) (pb : V → Bool), v = .ref yl ∧ SqL K H1 yl ws ∧ (∀ w ∈ ws, Cn σ H1 w (· = .bool (pb w))) ∧ GxR.TabG H1 P ∧ ∀ H2, GxR.Tabbed P H1 H2 → Q (.bl (ws.all pb)) H2
theorem pe_allL {c P : Addr} {elt iter : Expr} {x : Str} {px p pos gpos : Pos} {scope : Scope} {te : TE} {k : Nat} {Cn : L2.St → Hp → V → (Value → Prop) → Prop}
    (hr : Room k X.A) (hg : Gl X "all") (hm : X.mg "all" = none) (TB : GxR.TabB X.base X.mg c P) (hcode : X.env.code = .ref c) (S : GxR.GenS X.env scope x) (hi : PE X iter te) (hel : EltL X scope x P elt Cn)
    (hs : ∀ v, genFold iter X.env v = pure v)
    (he : starEach [.GeneratorExp elt [⟨.Name x px, iter, [], 0⟩] scope gpos] X.env = (false, eval (.GeneratorExp elt [⟨.Name x px, iter, [], 0⟩] scope gpos) X.env) :: starEach [] X.env := by rfl) :
    PE X (.Call (.Name "all" p) [.GeneratorExp elt [⟨.Name x px, iter, [], 0⟩] scope gpos] [] pos) (tAllL X.K P Cn te) := by
  refine ⟨fun pins s σ H Q I h => ?_⟩
  refine wpAny_Call_Name_kw (ld_blt I hg hm (by with_unfolding_all rfl : bootBuiltins "all" = some (.builtin "all")) ?_)
  refine PyProof.Rows.callWith_builtin1 ?_ he (by rfl)
  rw [he]
  show wpAny _ _ (spliced ((false, eval (.GeneratorExp elt [⟨.Name x px, iter, [], 0⟩] scope gpos) X.env) :: backTo pos (starEach [] X.env))) _ _ s
  refine Calls.spliced_cons (gen_any (Rst := fun ws RR H1 => ∃ pb : V → Bool, RR = (fun i y => ∀ w, ws[i]? = some w → y = .bool (pb w)) ∧ ∀ H2, GxR.Tabbed P H1 H2 → Q (.bl (ws.all pb)) H2) (Cn := fun σ H1 w R => ∃ b : Bool, (∀ y, y = .bool b → R y) ∧ Cn σ H1 w (· = .bool b)) hr TB hcode S hi ?_ hs I h ?_ fun ws RR H1 g s5 hR hG => ?_)
  · intro pins σ H s I hT w R hC u ru C code A h1 h2 h3
    obtain ⟨b, hb, hc⟩ := hC
    intro E s' hg
    exact wpAny_mono (hel pins σ H s I hT w _ hc u ru C code A h1 h2 h3 E s' hg) (fun y s'' r => ⟨hb y r.1, r.2⟩) fun _ _ e => e
  · rintro v H1 ⟨yl, ws, pb, rfl, hl, hC, hT, hq⟩
    exact ⟨yl, ws, _, rfl, hl, fun i w hw => ⟨pb w, fun y hy w' hw' => by rw [hw] at hw'; cases hw'; exact hy, hC w (List.mem_of_getElem? hw)⟩, hT, pb, rfl, hq⟩
  obtain ⟨fp, wr, G, F, St, W, hst, hF, hI⟩ := hG
  obtain ⟨pb, eRR, hq⟩ := hR
  refine Calls.spliced_nil ?_
  have W := W.in4_1
  refine call_all_walkS (W.self 0 _ _ _ hst ⟨g, fp, wr, G, _, F, St, trL pb ws, rfl, W, hst, ?_, fun s' hmv => ?_⟩)
  · intro j y sj Qj Ej hy hQj
    obtain ⟨hj, z⟩ := hF j y hy
    rw [eRR] at z
    rw [z _ (List.getElem?_eq_getElem hj)]
    have e : trL pb ws j = pb ws[j] := by
      unfold trL
      rw [List.getElem?_eq_getElem hj]
    rw [e] at hQj
    exact wpAny_truthy_bool hQj
  · obtain ⟨H2, hT, J⟩ := hI s' hmv
    refine ⟨.bl _, H2, J, rfl, ?_⟩
    rw [all_trL ws pb]
    exact hq H2 hT
end
end Ap


/-! KS: sets of tuples of ints, up to some thousand of them: in, add. -/
namespace Sx
open PySem PySem.Spec PyProof.Rows L2
/-- the masks that a set comes to -/
inductive Msk : Nat → Prop
  | a : Msk 7
  | b : Msk 31
  | c : Msk 127
  | d : Msk 511
  | e : Msk 2047
def marks (m : Nat) : Nat → Nat → Nat → Nat
  | 0, _, acc => acc
  | n + 1, i, acc => marks m n ((i * 5 + 1) % (m + 1)) (acc ||| 2 ^ i)
theorem lcgI_front (m : Nat) : ∀ (k i : Nat), lcgI m ((i * 5 + 1) % (m + 1)) k = lcgI m i (k + 1)
  | 0, _ => rfl
  | k + 1, i => congrArg (fun z => (z * 5 + 1) % (m + 1)) (lcgI_front m k i)
theorem marks_bit (m : Nat) : ∀ (n i acc j : Nat), (marks m n i acc).testBit j = true → acc.testBit j = true ∨ ∃ k, k < n ∧ lcgI m i k = j
  | 0, _, _, _, h => .inl h
  | n + 1, i, acc, j, h => by
    rcases marks_bit m n _ _ j h with g | ⟨k, hk, g⟩
    · rw [Nat.testBit_or, Bool.or_eq_true] at g
      rcases g with g | g
      · exact .inl g
      · rw [Nat.testBit_two_pow] at g
        exact .inr ⟨0, Nat.succ_pos n, of_decide_eq_true g⟩
    · exact .inr ⟨k + 1, Nat.succ_lt_succ hk, by rw [← lcgI_front]; exact g⟩
theorem marks_all {m : Nat} (hm : Msk m) : marks m (m + 1) 0 0 = 2 ^ (m + 1) - 1 := by
  cases hm <;> decide +kernel
def spin (m : Nat) : Nat → Nat → Nat
  | 0, i => i
  | n + 1, i => spin m n ((i * 5 + 1) % (m + 1))
theorem spin_lcg (m : Nat) : ∀ (n i : Nat), spin m n i = lcgI m i n
  | 0, _ => rfl
  | n + 1, i => (spin_lcg m n _).trans (lcgI_front m n i)
theorem spin_back {m : Nat} (hm : Msk m) : spin m (m + 1) 0 = 0 := by
  cases hm <;> decide +kernel

theorem zeroI (m : Nat) : ∀ k, lcgI m 0 k = lcgN m k
  | 0 => rfl
  | k + 1 => congrArg (fun z => (z * 5 + 1) % (m + 1)) (zeroI m k)
theorem hit0 {m j : Nat} (hm : Msk m) (hj : j ≤ m) : ∃ k, k ≤ m ∧ lcgN m k = j := by
  have q : (marks m (m + 1) 0 0).testBit j = true := by
    rw [marks_all hm, Nat.testBit_two_pow_sub_one]
    exact decide_eq_true (Nat.lt_succ_of_le hj)
  rcases marks_bit m _ _ _ j q with g | ⟨k, hk, g⟩
  · rw [Nat.zero_testBit] at g; cases g
  · exact ⟨k, Nat.le_of_lt_succ hk, (zeroI m k).symm.trans g⟩
theorem around {m : Nat} (hm : Msk m) (k : Nat) : lcgN m (m + 1 + k) = lcgN m k := by
  have z : lcgN m (m + 1) = 0 := by rw [← zeroI, ← spin_lcg]; exact spin_back hm
  have q := lcgN_add m (m + 1) k
  rw [z, zeroI] at q
  exact q.symm
/-- from i on j comes within a turn -/
theorem hitI {m i j : Nat} (hm : Msk m) (hi : i ≤ m) (hj : j ≤ m) : ∃ k, k ≤ m ∧ lcgI m i k = j := by
  obtain ⟨u, hu, rfl⟩ := hit0 hm hi
  obtain ⟨v, hv, rfl⟩ := hit0 hm hj
  by_cases c : u ≤ v
  · exact ⟨v - u, by omega, by rw [lcgN_add, Nat.add_sub_cancel' c]⟩
  · refine ⟨m + 1 + v - u, by omega, ?_⟩
    rw [lcgN_add, Nat.add_sub_cancel' (by omega), around hm]
/-- the j-th slot begins a run soon -/
theorem begins {m j : Nat} (hm : Msk m) (h : Int) (hj : j ≤ m) : ∃ n, n < SetTable.turns m ∧ runI m (SetTable.bits h) n = j := by
  have le := runI_le m (SetTable.bits h) 12
  obtain ⟨k, hk, g⟩ := hitI hm le hj
  exact ⟨12 + k, by unfold SetTable.turns; omega, (runI_tail (bits_lt h) k).trans g⟩
theorem way_in (m : Nat) (h : Int) (k : Nat) : way m h k ≤ m := by
  have lt : SetTable.bits h % (m + 1) < m + 1 := Nat.mod_lt _ (Nat.succ_pos m)
  have rb := runEnd_bd (Nat.le_of_lt_succ lt)
  have st : (runAt m (SetTable.bits h % (m + 1)) (SetTable.bits h)).j + (runAt m (SetTable.bits h % (m + 1)) (SetTable.bits h)).more ≤ m := by
    show SetTable.bits h % (m + 1) + (SetTable.runEnd m (SetTable.bits h % (m + 1)) - SetTable.bits h % (m + 1)) ≤ m
    omega
  exact Nat.le_trans (Nat.le_add_right _ _) (nth_in k _ st)
/-- a place that is left on the way, the first one; N runs lead there -/
theorem first_left {m : Nat} (hm : Msk m) (h : Int) (taken : Nat → Prop) {j : Nat} (hj : j ≤ m) (free : ¬ taken j) :
    ∃ K n, n < SetTable.turns m ∧ K ≤ off m (SetTable.bits h % (m + 1)) (SetTable.bits h) n ∧ K ≤ 10 * n ∧ ¬ taken (way m h K) ∧ ∀ k, k < K → taken (way m h k) := by
  obtain ⟨n, hn, g⟩ := begins hm h hj
  obtain ⟨k, hk, g2⟩ := run_nth m (SetTable.bits h) n
  have at1 : way m h k = j := by
    show (nth m (runAt m _ _) k).j = j
    rw [g2]; exact g
  have at2 : way m h (off m (SetTable.bits h % (m + 1)) (SetTable.bits h) n) = j := by
    show (nth m (runAt m _ _) _).j = j
    rw [nth_off, itL_run]; exact g
  obtain ⟨K, a, b, c⟩ := st_least (p := fun k => ¬ taken (way m h k)) k (by rw [show way m h k = j from at1]; exact free)
  refine ⟨K, n, hn, Nat.le_of_not_lt fun z => c _ z (by rw [at2]; exact free), Nat.le_trans a hk, b, fun k' hk' => ?_⟩
  exact Classical.byContradiction (c k' hk')

/-! ### all laid anew -/
theorem put_self {ow : Array (Option Nat)} {z : Nat} (v : Nat) (hz : z < ow.size) : oAt (ow.setIfInBounds z (some v)) z = some v := oAt_set_self _ hz
theorem own_more {m : Nat} (hm : Msk m) {ds : List Int} {ow : Array (Option Nat)} (W : Own m ds ow) (few : ds.length ≤ m) (h : Int) :
    ∃ z, SetTable.layClean.free m ow (SetTable.turns m) (SetTable.bits h % (m + 1)) (SetTable.bits h) = some z ∧ Own m (ds ++ [h]) (ow.setIfInBounds z (some ds.length)) := by
  obtain ⟨ps, pl, pin⟩ := W.ps
  obtain ⟨y, yl, yn⟩ := st_missing ps (m + 1) (by omega)
  have yf : ¬ oAt ow y ≠ none := fun c => yn (pin y (Nat.le_of_lt_succ yl) c)
  obtain ⟨K, n, hn, hK, _, fr, oc⟩ := first_left hm h (fun j => oAt ow j ≠ none) (Nat.le_of_lt_succ yl) yf
  have fr : oAt ow (way m h K) = none := Classical.byContradiction fr
  have g := free_spec m ow (SetTable.turns m) n (SetTable.bits h % (m + 1)) (SetTable.bits h) K hn hK
    (fun k hk => by
      cases e : oAt ow (nth m (runAt m (SetTable.bits h % (m + 1)) (SetTable.bits h)) k).j with
      | some _ => rfl
      | none => exact absurd e (oc k hk)) (by show (oAt ow (way m h K)).isNone = true; rw [fr]; rfl)
  refine ⟨way m h K, g, ?_⟩
  have inb : way m h K < ow.size := by rw [W.sz]; exact Nat.lt_succ_of_le (way_in m h K)
  have self := put_self ds.length inb
  have still : ∀ z, oAt ow z ≠ none → oAt (ow.setIfInBounds (way m h K) (some ds.length)) z ≠ none := fun z hz => by
    by_cases c : z = way m h K
    · subst c; rw [self]; exact Option.some_ne_none _
    · rw [oAt_set_ne _ c]; exact hz
  constructor
  · rw [Array.size_setIfInBounds]; exact W.sz
  · intro z v hz e
    by_cases c : z = way m h K
    · subst c
      rw [self] at e
      cases e
      exact ⟨h, K, by simp, rfl, fun k hk => still _ (oc k hk)⟩
    · rw [oAt_set_ne _ c] at e
      obtain ⟨h2, K2, r1, r2, r3⟩ := W.at_ z v hz e
      have lt := (List.getElem?_eq_some_iff.mp r1).1
      exact ⟨h2, K2, by rw [List.getElem?_append_left lt, r1], r2, fun k hk => still _ (r3 k hk)⟩
  · intro v hv
    by_cases c : v = ds.length
    · subst c
      exact ⟨_, way_in m h K, self⟩
    · obtain ⟨z, hz, e⟩ := W.all v (by simp at hv; omega)
      exact ⟨z, hz, by rw [oAt_set_ne _ fun q => by rw [q, fr] at e; cases e]; exact e⟩
  · refine ⟨way m h K :: ps, by simp [pl], fun z hz e => ?_⟩
    by_cases c : z = way m h K
    · rw [c]; exact List.mem_cons_self
    · rw [oAt_set_ne _ c] at e
      exact List.mem_cons_of_mem _ (pin z hz e)
theorem own_all {m : Nat} (hm : Msk m) : ∀ (rs ds : List Int) (ow : Array (Option Nat)), Own m ds ow → ds.length + rs.length ≤ m →
    ∃ ow', rs.foldl (stepF m) (some (ow, ds.length)) = some (ow', (ds ++ rs).length) ∧ Own m (ds ++ rs) ow'
  | [], ds, ow, W, _ => by rw [List.append_nil]; exact ⟨ow, rfl, W⟩
  | h :: rs, ds, ow, W, few => by
    simp only [List.length_cons] at few
    obtain ⟨z, e, W2⟩ := own_more hm W (by omega) h
    have len : (ds ++ [h]).length = ds.length + 1 := by simp
    obtain ⟨ow', f, W3⟩ := own_all hm rs _ _ W2 (by omega)
    rw [len, List.append_assoc] at f
    rw [List.append_assoc] at W3
    exact ⟨ow', by rw [List.foldl_cons, stepF_some e]; exact f, W3⟩
theorem clean {m : Nat} (hm : Msk m) {hs : Array Int} (few : hs.size ≤ m) : ∃ ow, SetTable.layClean m hs = some ow ∧ Own m hs.toList ow := by
  obtain ⟨ow, f, W⟩ := own_all hm hs.toList [] _ (Own.init m) (by simpa using few)
  refine ⟨ow, ?_, W⟩
  rw [layClean_eq]
  simp only [List.length_nil] at f
  rw [f]; rfl
/-- each hash is found again on its way -/
structure Laid (t : SetTable) (hs : List Int) : Prop where
  up : Ris t.place.toList
  nod : t.dummies = #[]
  cnt : t.place.size = hs.length
  msk : Msk t.mask
  near : ∀ (i : Nat) (h : Int) (j : Nat), hs[i]? = some h → t.place.toList[i]? = some j → ∃ k, way t.mask h k = j ∧ ∀ k', k' < k → way t.mask h k' ∈ t.place.toList
theorem anew (t : SetTable) {hs : Array Int} {wish M : Nat} (hw : SetTable.sizeAbove wish - 1 = M) (hM : Msk M) (few : hs.size ≤ M) :
    ∃ t' od, t.relaid hs wish = some (t', od) ∧ od.toList.Perm (List.range hs.size) ∧ Laid t' (od.toList.map fun i => hs.getD i 0) ∧ t'.mask = M ∧ t'.led = t.led ∧ t'.plain = t.plain := by
  obtain ⟨ow, e, W⟩ := clean hM few
  have eR : t.relaid hs wish = some (tabOf t M ow, ((liveOf M ow).map (·.2)).toArray) := by
    rw [relaid_eq, hw, e]; rfl
  obtain ⟨up, _⟩ := ris_live (fun j => ow.getD j none) (List.range (M + 1)) List.pairwise_lt_range
  have up : Ris ((liveOf M ow).map (·.1)) := up
  have num : (liveOf M ow).length = hs.size := by
    obtain ⟨ps, pl, pin⟩ := W.ps
    have le1 : ((liveOf M ow).map (·.1)).length ≤ ps.length := by
      refine nat_nodup_len _ _ (up.imp Nat.ne_of_lt) fun z hz => ?_
      obtain ⟨⟨z', v⟩, hq, rfl⟩ := List.mem_map.mp hz
      obtain ⟨a, b⟩ := (mem_live W.sz).mp hq
      exact pin _ a (by rw [b]; exact Option.some_ne_none _)
    have le2 : (List.range hs.size).length ≤ ((liveOf M ow).map (·.2)).length := by
      refine nat_nodup_len _ _ List.nodup_range fun v hv => ?_
      obtain ⟨z, a, b⟩ := W.all v (by simpa using hv)
      exact List.mem_map.mpr ⟨(z, v), (mem_live W.sz).mpr ⟨a, b⟩, rfl⟩
    simp at le1 le2 pl
    omega
  refine ⟨_, _, eR, perm_range _ _ (by simpa using num) fun v hv => ?_, ⟨up, rfl, by simp [tabOf], hM, fun i h j e1 e2 => ?_⟩, rfl, rfl, rfl⟩
  · obtain ⟨z, a, b⟩ := W.all v (by simpa using hv)
    exact List.mem_map.mpr ⟨(z, v), (mem_live W.sz).mpr ⟨a, b⟩, rfl⟩
  · have e1 : ((liveOf M ow).map fun q => hs.getD q.2 0)[i]? = some h := by simpa using e1
    have e2 : ((liveOf M ow).map (·.1))[i]? = some j := e2
    rw [List.getElem?_map] at e1 e2
    obtain ⟨⟨z, v⟩, hq, rfl⟩ := Option.map_eq_some_iff.mp e2
    rw [hq] at e1
    cases e1
    obtain ⟨a, b⟩ := (mem_live W.sz).mp (List.mem_of_getElem? hq)
    obtain ⟨h2, K, r1, r2, r3⟩ := W.at_ z v a b
    have eh : hs.getD v 0 = h2 := by
      rw [Array.getD_eq_getD_getElem?, ← Array.getElem?_toList, r1]; rfl
    refine ⟨K, by rw [← r2]; exact congrArg (fun q => way M q K) eh, fun k hk => ?_⟩
    show way M (hs.getD v 0) k ∈ (liveOf M ow).map (·.1)
    rw [eh]
    obtain ⟨v2, e3⟩ := Option.ne_none_iff_exists'.mp (r3 k hk)
    exact List.mem_map.mpr ⟨(_, v2), (mem_live W.sz).mpr ⟨way_in M h2 k, e3⟩, rfl⟩

theorem Laid.gap {t : SetTable} {hs : List Int} (T : Laid t hs) (few : hs.length ≤ t.mask) (h : Int) : ∃ K, K < 10 * SetTable.turns t.mask ∧ way t.mask h K ∉ t.place.toList ∧ ∀ k, k < K → way t.mask h k ∈ t.place.toList := by
  obtain ⟨j, hj, nj⟩ := st_missing t.place.toList (t.mask + 1) (by have := T.cnt; simp; omega)
  obtain ⟨K, n, hn, _, hK, a, b⟩ := first_left T.msk h (· ∈ t.place.toList) (Nat.le_of_lt_succ hj) nj
  exact ⟨K, by omega, a, b⟩
theorem Laid.ahead {t : SetTable} {hs : List Int} (T : Laid t hs) {h : Int} {K i : Nat} (gap : way t.mask h K ∉ t.place.toList) (hi : hs[i]? = some h) : ∃ k, k < K ∧ t.place.toList[i]? = some (way t.mask h k) := by
  have lt : i < t.place.toList.length := by
    have := (List.getElem?_eq_some_iff.mp hi).1
    rw [Array.length_toList, T.cnt]; exact this
  have at_ := List.getElem?_eq_getElem lt
  obtain ⟨k, ek, bk⟩ := T.near i h _ hi at_
  refine ⟨k, Nat.lt_of_not_le fun z => ?_, by rw [ek]; exact at_⟩
  rcases Nat.lt_or_eq_of_le z with z | z
  · exact gap (bk K z)
  · rw [z, ek] at gap
    exact gap (List.mem_of_getElem? at_)
/-- one more, at the first gap of its way -/
theorem Laid.more {t : SetTable} {hs : List Int} (T : Laid t hs) {h : Int} {K : Nat} (gap : way t.mask h K ∉ t.place.toList) (oc : ∀ k, k < K → way t.mask h k ∈ t.place.toList) :
    (t.put (way t.mask h K)).2 = SetTable.below t.place (way t.mask h K) ∧ SetTable.below t.place (way t.mask h K) ≤ hs.length ∧
    Laid (t.put (way t.mask h K)).1 (hs.take (SetTable.below t.place (way t.mask h K)) ++ h :: hs.drop (SetTable.below t.place (way t.mask h K))) ∧ (t.put (way t.mask h K)).1.fill = hs.length + 1 := by
  generalize ez : way t.mask h K = z at gap ⊢
  obtain ⟨bl, _, _⟩ := below_cut T.up z
  have bh : SetTable.below t.place z ≤ hs.length := T.cnt ▸ bl
  have bp : SetTable.below t.place z ≤ t.place.toList.length := by rw [Array.length_toList]; exact bl
  have pl := put_place t z
  have np : t.place[SetTable.below t.place z]? ≠ some z := fun q => gap (List.mem_of_getElem? ((Array.getElem?_toList ..).trans q))
  have sz : (t.put z).1.place.size = hs.length + 1 := by
    rw [← Array.length_toList, pl, len_ins _ bp, Array.length_toList, T.cnt]
  have dm := put_dm T.nod z
  have still : ∀ y, y ∈ t.place.toList → y ∈ (t.put z).1.place.toList := fun y hy => by rw [pl]; exact mem_ins.mpr (.inr hy)
  refine ⟨rfl, bh, ⟨ris_insert T.up np, dm, by rw [len_ins _ bh]; exact sz, T.msk, fun i h' j e1 e2 => ?_⟩, ?_⟩
  · have cut : ∀ i', hs[i']? = some h' → t.place.toList[i']? = some j → ∃ k, way t.mask h' k = j ∧ ∀ k', k' < k → way t.mask h' k' ∈ (t.put z).1.place.toList := fun i' a b => by
      obtain ⟨k, ek, bk⟩ := T.near i' h' j a b
      exact ⟨k, ek, fun k' hk' => still _ (bk k' hk')⟩
    rw [tins_get hs bh] at e1
    rw [pl, tins_get _ bp] at e2
    show ∃ k, way t.mask h' k = j ∧ _
    split at e1
    · rename_i c
      rw [if_pos c] at e2
      exact cut _ e1 e2
    · rename_i c
      rw [if_neg c] at e2
      split at e1
      · rename_i d
        rw [if_pos d] at e2
        cases e1
        cases e2
        exact ⟨K, ez, fun k hk => still _ (oc k hk)⟩
      · rename_i d
        rw [if_neg d] at e2
        exact cut _ e1 e2
  · show (t.put z).1.place.size + (t.put z).1.dummies.size = _
    rw [sz, dm]; rfl
/-! ### the set at a -/
structure SetP (P : Program) (w : World) (h : Heap) (a : Addr) (L : List (Addr × List Int)) (es : Array (Int × Value)) (ep : Nat) (t : SetTable) : Prop where
  ob : ∃ o, h.get? a = some o ∧ o.ExactSet ∧ o.data = .set es ep t
  rows : es.toList = rowsOf P w L
  tab : Laid t (L.map fun p => thash P w p.2)
  one : (L.map (·.2)).Nodup
  pln : t.plain = true
  led : w.params.followText "set-order" = true ∨ t.led = true
  wide : L.length * 5 < t.mask * 3
  few : L.length ≤ 1000
section
variable {P : Program} {w : World} {A : Around} {E : Value → Shared → Prop} {s : Shared} {a : Addr} {L : List (Addr × List Int)} {es : Array (Int × Value)} {ep : Nat} {t : SetTable}
theorem rows_len {es : Array (Int × Value)} (h : es.toList = rowsOf P w L) : es.size = L.length := by
  rw [← Array.length_toList, h]; exact List.length_map ..
theorem fits_of {t : SetTable} {n : Nat} (h1 : t.place.size = n) (h2 : t.dummies = #[]) (h3 : n ≤ t.mask) : t.fits n = true := by
  simp [SetTable.fits, SetTable.fill, h1, h2, h3]
theorem SetP.fits (R : SetP P w s.heap a L es ep t) : t.fits es.size = true := by
  have c := R.tab.cnt
  have z := R.wide
  rw [List.length_map] at c
  rw [rows_len R.rows]
  exact fits_of c R.tab.nod (by omega)
theorem SetP.at_ (R : SetP P w s.heap a L es ep t) {i : Nat} {p : Addr × List Int} (h : L[i]? = some p) : es[i]? = some (thash P w p.2, Value.ref p.1) := by
  rw [← Array.getElem?_toList, R.rows, rowsOf, List.getElem?_map, h]; rfl
theorem SetP.firm (R : SetP P w s.heap a L es ep t) : ¬ t.gaveWay = true := by
  have : ∀ m, Msk m → ¬ (m % 2 == 0) = true := fun m hm => by cases hm <;> decide
  exact this _ R.tab.msk
theorem nth_free (m : Nat) : ∀ (n : Nat) (p : SetTable.Probe), p.dummy = none → (nth m p n).dummy = none
  | 0, _, h => h
  | n + 1, p, h => nth_free m n (adv m p) (by unfold adv; split <;> exact h)
/-- a search, from the c-th step of the key's way on -/
theorem seek (R : SetP P w s.heap a L es ep t) (tup : ∀ p ∈ L, IsT P w s.heap p.2 p.1) {x : Addr} {k : List Int} (hx : IsT P w s.heap k x) (hu : A.units < cLine) (ad : Bool) {st : SetTable.Probe} (est : st = runAt t.mask (SetTable.bits (thash P w k) % (t.mask + 1)) (SetTable.bits (thash P w k)))
    {K : Nat} (lt : K < 10 * SetTable.turns t.mask) (gap : (nth t.mask st K).j ∉ t.place.toList) (oc : ∀ c, c < K → (nth t.mask st c).j ∈ t.place.toList) {Q : SetFound → Shared → Prop}
    (yes : k ∈ L.map (·.2) → ∀ i, Q (.there (if ad = true then none else some i)) s) (no : k ∉ L.map (·.2) → Q (.free (nth t.mask st K).j false) s) :
    ∀ (f c : Nat) (go : Option SetTable.Probe), go.getD (t.probeStart (thash P w k)) = nth t.mask st c → c ≤ K → K - c < f →
      (∀ (i : Nat) p, L[i]? = some p → p.2 = k → ∃ c', c ≤ c' ∧ c' < K ∧ t.place.toList[i]? = some (nth t.mask st c').j) →
      wpAny (model P w) A (setSearchFrom a (.ref x) (thash P w k) ad f go) Q E s
  | 0, _, _, _, _, z, _ => absurd z (Nat.not_lt_zero _)
  | f + 1, c, go, ego, hc, hf, left => by
    obtain ⟨o, ho, hex, hd⟩ := R.ob
    rw [setSearchFrom_succ]
    refine wpAny_bind (wpAny_setState_of ho hd R.fits ?_)
    dsimp only
    refine wp_if_neg R.firm ?_
    try refine wpAny_bind (wpAny_pure ?_)
    have sh : ∀ q, nth t.mask (nth t.mask st c) q = nth t.mask st (c + q) := fun q => (nth_add t.mask c st q).symm
    have eK : c + (K - c) = K := Nat.add_sub_cancel' hc
    have free := nth_free t.mask c st (by rw [est]; rfl)
    have hA : ∀ {i : Nat} {p : Addr × List Int}, L[i]? = some p → (fun i => (es[i]?.map (·.1)).getD 0) i = thash P w p.2 := fun {i p} hp => by
      simp only [R.at_ hp]; rfl
    have spec := go_spec t R.tab.up R.tab.nod (fun i => (es[i]?.map (·.1)).getD 0) (thash P w k) (10 * SetTable.turns t.mask) (K - c) (nth t.mask st c) free (by omega)
      (fun q hq => by rw [sh]; exact oc _ (by omega)) (by rw [sh, eK]; exact gap)
    have pass : ∀ {q i0 : Nat} {p0 : Addr × List Int}, (∀ (k' i' : Nat), k' < q → t.place.toList[i']? = some (nth t.mask (nth t.mask st c) k').j → (es[i']?.map (·.1)).getD 0 ≠ thash P w k) → L[i0]? = some p0 → p0.2 = k →
        ∃ c', c + q ≤ c' ∧ c' < K ∧ t.place.toList[i0]? = some (nth t.mask st c').j := fun {q i0 p0} none h0 hk => by
      obtain ⟨c', l1, l2, l3⟩ := left i0 p0 h0 hk
      refine ⟨c', Nat.le_of_not_lt fun z => ?_, l2, l3⟩
      exact none (c' - c) i0 (by omega) (by rw [sh, Nat.add_sub_cancel' l1]; exact l3) ((hA h0).trans (by rw [hk]))
    rcases spec with ⟨q, i, hq, hi, _, nun, met⟩ | ⟨nun, met⟩
    · have met : t.probe (fun i => (es[i]?.map (·.1)).getD 0) (thash P w k) (go.getD (t.probeStart (thash P w k))) = some (.candidate (nth t.mask st (c + q)).j i (nth t.mask st (c + (q + 1)))) := by
        rw [ego, ← sh, ← sh]; exact met
      rw [met]
      dsimp only
      rw [sh] at hi
      have il : i < L.length := by
        have z := (List.getElem?_eq_some_iff.mp hi).1
        have c := R.tab.cnt
        simp at c z
        omega
      obtain ⟨p, hp⟩ : ∃ p, L[i]? = some p := ⟨_, List.getElem?_eq_getElem il⟩
      have pin := List.mem_of_getElem? hp
      have live : t.slot (nth t.mask st (c + q)).j = .live i := slot_live R.tab.up hi
      have behind : wpAny (model P w) A (searchRest a (.ref x) (thash P w k) ad f es t (nth t.mask st (c + q)).j i (nth t.mask st (c + (q + 1)))) Q E s := by
        unfold searchRest
        rw [R.at_ hp]
        dsimp only
        refine wpAny_bind (wpAny_holding (wpAny_eqBool_tuple hu (tup p pin) hx ?_))
        refine wpAny_bind (wpAny_setState_of ho hd R.fits ?_)
        dsimp only
        by_cases same : p.2 = k
        · have there := yes (List.mem_map.mpr ⟨p, pin, same⟩) i
          cases ad with
          | true =>
            refine wp_if_pos (by simp [same]) ?_
            exact wpAny_pure there
          | false =>
            refine wp_if_neg (by simp) ?_
            try refine wpAny_bind (wpAny_pure ?_)
            rw [sameMem]
            dsimp only
            simp only [if_true, live, R.at_ hp]
            refine wpAny_bind (wpAny_isSame_ref_self (wpAny_bind (wpAny_pure ?_)))
            simp only [if_true]
            refine wp_if_pos (by simp [same]) ?_
            exact wpAny_pure there
        · refine wp_if_neg (by simp [same]) ?_
          try refine wpAny_bind (wpAny_pure ?_)
          rw [sameMem]
          dsimp only
          simp only [if_true, live, R.at_ hp]
          refine wpAny_bind (wpAny_isSame_ref_self (wpAny_bind (wpAny_pure ?_)))
          simp only [if_true]
          refine wp_if_neg (by simp [same]) ?_
          refine seek R tup hx hu ad est lt gap oc yes no f (c + (q + 1)) _ rfl (by omega) (by omega) fun i0 p0 h0 hk => ?_
          obtain ⟨c', l1, l2, l3⟩ := pass nun h0 hk
          refine ⟨c', Nat.lt_of_le_of_ne l1 fun z => ?_, l2, l3⟩
          rw [← z] at l3
          have e := live.symm.trans (slot_live R.tab.up l3)
          cases e
          rw [hp] at h0
          cases h0
          exact same hk
      by_cases hl : t.led = true
      · refine wp_if_neg (by simp [hl]) ?_
        try refine wpAny_bind (wpAny_pure ?_)
        exact behind
      · refine wp_if_pos (by simp [hl]) ?_
        refine wpAny_bind (seen_tup hx (fun y hy => ?_) (wp_if_neg (by decide) ?_))
        · obtain ⟨e, he, rfl⟩ := List.mem_map.mp hy
          have he : e ∈ es.toList := by simp at he; simpa using he.1
          rw [R.rows] at he
          obtain ⟨p2, h2, rfl⟩ := List.mem_map.mp he
          exact ⟨p2.2, p2.1, rfl, tup p2 h2⟩
        · try refine wpAny_bind (wpAny_pure ?_)
          exact behind
    · have met : t.probe (fun i => (es[i]?.map (·.1)).getD 0) (thash P w k) (go.getD (t.probeStart (thash P w k))) = some (.empty (nth t.mask st K).j none) := by
        rw [sh, eK] at met
        rw [ego]; exact met
      rw [met]
      dsimp only
      refine wpAny_pure (no fun hm => ?_)
      obtain ⟨p0, h0, hk⟩ := List.mem_map.mp hm
      obtain ⟨i0, hi0, e0⟩ := List.getElem_of_mem h0
      obtain ⟨c', l1, l2, _⟩ := pass nun ((List.getElem?_eq_getElem hi0).trans (congrArg some e0)) hk
      omega

theorem search_b (R : SetP P w s.heap a L es ep t) (tup : ∀ p ∈ L, IsT P w s.heap p.2 p.1) {x : Addr} {k : List Int} (hx : IsT P w s.heap k x) (hu : A.units < cLine) (ad : Bool) {Q : SetFound → Shared → Prop}
    (yes : k ∈ L.map (·.2) → ∀ i, Q (.there (if ad = true then none else some i)) s)
    (no : ∀ K, k ∉ L.map (·.2) → way t.mask (thash P w k) K ∉ t.place.toList → (∀ c, c < K → way t.mask (thash P w k) c ∈ t.place.toList) → Q (.free (way t.mask (thash P w k) K) false) s) :
    wpAny (model P w) A (setSearch a (.ref x) (thash P w k) ad) Q E s := by
  have z := R.wide
  have z2 := R.few
  obtain ⟨K, lt, gap, oc⟩ := R.tab.gap (by rw [List.length_map]; omega) (thash P w k)
  have small : K < 100000 := by
    have : ∀ m, Msk m → 10 * SetTable.turns m < 100000 := fun m hm => by cases hm <;> decide
    exact Nat.lt_trans lt (this _ R.tab.msk)
  refine seek R tup hx hu ad rfl lt gap oc yes (fun n => no K n gap oc) 100000 0 none rfl (Nat.zero_le K) small fun i p hp hk => ?_
  obtain ⟨c, l, e⟩ := R.tab.ahead gap (i := i) (h := thash P w k) (by rw [List.getElem?_map, hp, ← hk]; rfl)
  exact ⟨c, Nat.zero_le c, l, e⟩
theorem grown_mask {m n : Nat} (hm : Msk m) (few : n ≤ 1000) (h1 : n * 5 < m * 3) (h2 : ¬ (n + 1) * 5 < m * 3) : ∃ M, SetTable.sizeAbove (SetTable.grown (n + 1)) - 1 = M ∧ Msk M ∧ SetTable.sizeAbove (SetTable.grown (n + 1)) ≤ 2048 ∧ (n + 1) * 5 < M * 3 := by
  cases hm with
  | a =>
    obtain rfl : n = 4 := by omega
    exact ⟨31, by decide +kernel, .b, by decide +kernel, by decide⟩
  | b =>
    obtain rfl : n = 18 := by omega
    exact ⟨127, by decide +kernel, .c, by decide +kernel, by decide⟩
  | c =>
    obtain rfl : n = 76 := by omega
    exact ⟨511, by decide +kernel, .d, by decide +kernel, by decide⟩
  | d =>
    obtain rfl : n = 306 := by omega
    exact ⟨2047, by decide +kernel, .e, by decide +kernel, by decide⟩
  | e => omega
theorem relay_b {o : Obj} (ho : s.heap.get? a = some o) (hex : o.ExactSet) (hd : o.data = .set es ep t) (rows : es.toList = rowsOf P w L) (cnt : t.place.size = es.size) (nod : t.dummies = #[]) (inn : es.size ≤ t.mask)
    (one : (L.map (·.2)).Nodup) (pln : t.plain = true) (led : w.params.followText "set-order" = true ∨ t.led = true) (few : L.length ≤ 1000) {wish M : Nat} (hw : SetTable.sizeAbove wish - 1 = M) (hM : Msk M) (hw2 : SetTable.sizeAbove wish ≤ 2048) (wide : L.length * 5 < M * 3)
    {Q : Unit → Shared → Prop} (q : ∀ h' L' es' ep' t', Heap.SameBut a s.heap h' → SetP P w h' a L' es' ep' t' → L'.Perm L → Q () { s with heap := h' }) : wpAny (model P w) A (setRelay a wish) Q E s := by
  have len := rows_len rows
  obtain ⟨t', od, eR, pm, T, e1, e2, e3⟩ := anew t (hs := es.map (·.1)) hw hM (by simp; omega)
  simp only [Array.size_map, len] at pm
  obtain ⟨L2, r1, r2, r3⟩ := order_rows L es od rows pm
  have len2 : (od.filterMap (es[·]?)).size = es.size := by rw [rows_len r1, r2.length_eq, len]
  rw [setRelay_eq]
  refine wpAny_bind (wpAny_setState_of ho hd (fits_of cnt nod inn) ?_)
  dsimp only
  refine wp_if_neg (by rw [sizeLine_eq]; omega) ?_
  try refine wpAny_bind (wpAny_pure ?_)
  rw [eR]
  dsimp only
  refine wpAny_bind (wp_if_neg (by simp [len2]) ?_)
  try refine wpAny_bind (wpAny_pure ?_)
  refine wpAny_pure ?_
  dsimp only
  refine wpAny_storeSet_of ho hd ?_ (by rw [len2, len, sizeLine_eq]; omega)
  refine q _ L2 _ (ep + 1) t' (Heap.SameBut.update ..) ⟨⟨_, store_at ho hd, ⟨hex.1, hex.2.1, hex.2.2⟩, rfl⟩, r1, by rw [r3]; exact T, (r2.map (·.2)).nodup_iff.mpr one, e3.trans pln, ?_, ?_, r2.length_eq ▸ few⟩ r2
  · rw [e2]; exact led
  · rw [e1, r2.length_eq]; exact wide
/-- a tuple is put in -/
theorem add_b (R : SetP P w s.heap a L es ep t) (tup : ∀ p ∈ L, IsT P w s.heap p.2 p.1) {x : Addr} {k : List Int} (hx : IsT P w s.heap k x) (hu : A.units < cLine) (few : L.length + 1 ≤ 1000) {Q : Bool → Shared → Prop}
    (q : ∀ b h' L' es' ep' t', Heap.SameBut a s.heap h' → SetP P w h' a L' es' ep' t' → (k ∈ L.map (·.2) → L' = L) → (k ∉ L.map (·.2) → L'.Perm ((x, k) :: L)) → Q b { s with heap := h' }) :
    wpAny (model P w) A (setAddHashed a (.ref x) (thash P w k)) Q E s := by
  obtain ⟨o, ho, hex, hd⟩ := R.ob
  have len := rows_len R.rows
  have z := R.wide
  refine wpAny_holding ?_
  rw [show (100000 : Nat) = Nat.succ 99999 from rfl, setAddHashedIn_succ]
  refine wpAny_bind (wpAny_setState_of ho hd R.fits ?_)
  dsimp only
  refine wp_if_neg (by simp [Value.scannable, byScan]) ?_
  try refine wpAny_bind (wpAny_pure ?_)
  refine wpAny_bind (search_b R tup hx hu true (fun m _ => wpAny_pure (q false s.heap L es ep t (Heap.SameBut.refl _ _) R (fun _ => rfl) fun n => absurd m n)) fun K n gap oc => ?_)
  dsimp only
  refine wpAny_bind (wpAny_setState_of ho hd R.fits ?_)
  dsimp only
  obtain ⟨q1, q2, q3, q4⟩ := R.tab.more gap oc
  have g1 : (t.put (way t.mask (thash P w k) K)).1.plain = true := R.pln
  have g2 : (t.put (way t.mask (thash P w k) K)).1.led = t.led := rfl
  have g3 : (t.put (way t.mask (thash P w k) K)).1.mask = t.mask := rfl
  rw [List.length_map] at q2 q4
  generalize t.put (way t.mask (thash P w k) K) = pt at *
  obtain ⟨t1, p⟩ := pt
  dsimp only at *
  subst q1
  first
    | (refine wpAny_bind ?_; refine wp_if_pos g1 ?_; refine hashBy_tup hx ?_)
    | refine wp_if_pos g1 (wpAny_bind (hashBy_tup hx ?_))
  simp only [if_true]
  generalize SetTable.below t.place (way t.mask (thash P w k) K) = p at *
  have rows : (SetTable.insertAt es p (thash P w k, Value.ref x)).toList = rowsOf P w (L.take p ++ (x, k) :: L.drop p) := by
    rw [rows_put, ← R.rows]; exact SetTable.toList_insertAt ..
  have pm := put_perm L p (x, k)
  have T : Laid t1 ((L.take p ++ (x, k) :: L.drop p).map fun p => thash P w p.2) := by
    rw [List.map_append, List.map_cons, List.map_take, List.map_drop]; exact q3
  have one : ((L.take p ++ (x, k) :: L.drop p).map (·.2)).Nodup := (pm.map (·.2)).nodup_iff.mpr (List.nodup_cons.mpr ⟨n, R.one⟩)
  generalize SetTable.insertAt es p (thash P w k, Value.ref x) = es1 at *
  generalize L.take p ++ (x, k) :: L.drop p = L1 at *
  have len1 : L1.length = L.length + 1 := pm.length_eq
  have len2 := rows_len rows
  refine wpAny_bind (wpAny_storeSet_of ho hd ?_ (by rw [len2, len1, sizeLine_eq]; omega))
  have sb : Heap.SameBut a s.heap (s.heap.update a (Obj.putSet es1 t1)) := Heap.SameBut.update ..
  have at1 := store_at (es' := es1) (t' := t1) ho hd
  generalize s.heap.update a (Obj.putSet es1 t1) = h1 at *
  have led : w.params.followText "set-order" = true ∨ t1.led = true := g2.symm ▸ R.led
  have full : t1.tooFull = decide (¬ (L.length + 1) * 5 < t.mask * 3) := by
    unfold SetTable.tooFull
    rw [q4, g3]
    exact decide_eq_decide.mpr ⟨fun c => by omega, fun c => by omega⟩
  by_cases c : (L.length + 1) * 5 < t.mask * 3
  · have e : t1.tooFull = false := by rw [full]; exact decide_eq_false fun n => n c
    first
      | refine wp_if_neg (by simp [e]) ?_
      | (refine wpAny_bind ?_; refine wp_if_neg (by simp [e]) ?_; refine wpAny_pure ?_)
    exact wpAny_pure (q true h1 L1 es1 (ep + 1) t1 sb ⟨⟨_, at1, ⟨hex.1, hex.2.1, hex.2.2⟩, rfl⟩, rows, T, one, g1, led, by rw [len1, g3]; exact c, by omega⟩ (fun m => absurd m n) fun _ => pm)
  · have e : t1.tooFull = true := by rw [full]; exact decide_eq_true c
    obtain ⟨M, w1, w2, w3, w4⟩ := grown_mask R.tab.msk R.few z c
    have go : wpAny (model P w) A (setRelay a (SetTable.grown (es.size + 1))) (fun _ s' => wpAny (model P w) A (pure true) Q E s') E { s with heap := h1 } := by
      rw [len]
      have cn := T.cnt
      rw [List.length_map] at cn
      refine relay_b (s := { s with heap := h1 }) at1 ⟨hex.1, hex.2.1, hex.2.2⟩ rfl rows (cn.trans len2.symm) T.nod (by rw [len2, len1, g3]; omega) one g1 led (by omega) w1 w2 w3 (by rw [len1]; exact w4) ?_
      intro h2 L2 es2 ep2 t2 sb2 R2 pm2
      exact wpAny_pure (q true h2 L2 es2 ep2 t2 (sb.trans sb2) R2 (fun m => absurd m n) fun _ => pm2.trans pm)
    first
      | (refine wpAny_bind ?_; refine wp_if_pos (by simp [e]) ?_; exact go)
      | (refine wp_if_pos (by simp [e]) ?_; refine wpAny_bind ?_; exact go)

theorem SetP.typeIs (R : SetP P w s.heap a L es ep t) : s.TypeIs (.ref a) "set" := by
  obtain ⟨o, ho, hc, _⟩ := R.ob
  exact ⟨o, ho, hc.1⟩
theorem SetP.toks (R : SetP P w s.heap a L es ep t) (n : Nat) : SetP P w ({ s with toks := n } : Shared).heap a L es ep t := R
theorem in_b (R : SetP P w s.heap a L es ep t) (tup : ∀ p ∈ L, IsT P w s.heap p.2 p.1) {x : Addr} {k : List Int} (hx : IsT P w s.heap k x) (hu : A.units + 64 < cLine) {Q : Value → Shared → Prop}
    (q : ∀ n, Q (.bool (decide (k ∈ L.map (·.2)))) { s with toks := n }) : wpAny (model P w) A (compareOp .In (.ref x) (.ref a)) Q E s := by
  show wpAny _ _ (contains (.ref a) (.ref x) >>= fun b => pure (Value.bool b)) Q E s
  refine wpAny_bind ?_
  unfold contains
  try with_reducible refine wpAny_holding ?_
  refine wpAny_bind (wpAny_specialOf R.typeIs F.slot_set_contains.lookup ?_)
  show wpAny _ _ (if (some (Value.builtin "set.__contains__") == some Value.none) = true then _ else _) _ E s
  rw [beq_builtin_none, if_neg Bool.false_ne_true]
  refine wpAny_bind (wpAny_callSpecialUnlessNone?_slot (name := Str.ofString "__contains__") R.typeIs F.slot_set_contains
    (wpAny_call_entry F.slot_set_contains R.typeIs entry_set_contains ?_ (F.args_set_contains_2 _ _)))
  unfold Builtin.«frozenset.__contains__» Builtin.Frozenset.oneOther
  simp only [bind_assoc, List.isEmpty_nil]
  unfold Builtin.Frozenset.addrOf Builtin.Frozenset.withSetAsKey setContains
  refine wpAny_bind (wpAny_pure ?_)
  try dsimp only
  refine wpAny_bind (wpAny_pure ?_)
  try dsimp only
  refine wpAny_bind (wpAny_tryCatch (wpAny_holding (wpAny_bind (wpAny_pyHash_tuple (by simp only [Around.in1_units]; omega) hx ?_))))
  have R1 : SetP P w ({ s with toks := s.toks + (k.length + 1) } : Shared).heap a L es ep t := R
  have tup1 : ∀ p ∈ L, IsT P w ({ s with toks := s.toks + (k.length + 1) } : Shared).heap p.2 p.1 := tup
  have hx1 : IsT P w ({ s with toks := s.toks + (k.length + 1) } : Shared).heap k x := hx
  have q1 := q (s.toks + (k.length + 1))
  generalize ({ s with toks := s.toks + (k.length + 1) } : Shared) = s1 at *
  unfold setFind
  rw [show (100000 : Nat) = Nat.succ 99999 from rfl]
  unfold setFindIn
  obtain ⟨o, ho, _, hd⟩ := R1.ob
  refine wpAny_bind (wpAny_bind (wpAny_setState_of ho hd R1.fits ?_))
  dsimp only
  refine wp_if_neg (by simp [Value.scannable, byScan]) ?_
  try refine wpAny_bind (wpAny_pure ?_)
  refine wpAny_bind (search_b R1 tup1 hx1 (by simp only [Around.in1_units]; omega) false (fun m i => ?y) fun K n _ _ => ?n)
  all_goals dsimp only
  · refine wpAny_pure ?_
    refine wpAny_pure ?_
    rw [decide_eq_true m] at q1
    exact wpAny_pure ⟨_, rfl, wpAny_truthy_bool (wpAny_pure q1)⟩
  · refine wpAny_pure ?_
    refine wpAny_pure ?_
    rw [decide_eq_false n] at q1
    exact wpAny_pure ⟨_, rfl, wpAny_truthy_bool (wpAny_pure q1)⟩
theorem put_b (R : SetP P w s.heap a L es ep t) (tup : ∀ p ∈ L, IsT P w s.heap p.2 p.1) {x : Addr} {k : List Int} (hx : IsT P w s.heap k x) (hu : A.units + 64 < cLine) (few : L.length + 1 ≤ 1000) {Q : Value → Shared → Prop}
    (q : ∀ n h' L' es' ep' t', Heap.SameBut a s.heap h' → SetP P w h' a L' es' ep' t' → (k ∈ L.map (·.2) → L' = L) → (k ∉ L.map (·.2) → L'.Perm ((x, k) :: L)) → Q .none { s with heap := h', toks := n }) :
    wpAny (model P w) A (call (.builtin "set.add") [.ref a, .ref x]) Q E s := by
  refine wpAny_call_entry F.slot_set_add R.typeIs F.entry_set_add ?_ (F.args_set_add_2 _ _)
  unfold Builtin.«set.add» Builtin.Frozenset.oneOther
  simp only [bind_assoc, List.isEmpty_nil]
  unfold Builtin.Frozenset.addrOf setAdd
  refine wpAny_bind (wpAny_pure ?_)
  try dsimp only
  refine wpAny_bind (wpAny_pure ?_)
  try dsimp only
  refine wpAny_bind (wpAny_holding (wpAny_bind (wpAny_pyHash_tuple (by simp only [Around.in1_units]; omega) hx ?_)))
  refine add_b (s := { s with toks := s.toks + (k.length + 1) }) R tup hx (by simp only [Around.in1_units]; omega) few fun b h' L' es' ep' t' s1 s2 s3 s4 => ?_
  exact wpAny_pure ⟨_, rfl, q _ h' L' es' ep' t' s1 s2 s3 s4⟩
end
/-- the set at a, told alone -/
def SetI (P : Program) (w : World) (a : Addr) (L : List (Addr × List Int)) : HO := .ext fun h => ∃ es ep t, SetP P w h a L es ep t
theorem _root_.Ap.NC.setI {P : Program} {w : World} {H : Hp} {a : Addr} {L : List (Addr × List Int)} (e : H a = some (SetI P w a L)) : Ap.NC H a := Ap.NC.ext e fun h ⟨es, ep, t, R⟩ => by
  obtain ⟨o, ho, _, hd⟩ := R.ob
  exact ⟨_, o, ho, fun vs z => by rw [hd] at z; cases z⟩
theorem _root_.Ap.NC.setO {w : World} {H : Hp} {a : Addr} {S : Int → Bool} {n : Nat} (e : H a = some (SetO w a S n)) : Ap.NC H a := Ap.NC.ext e fun h ⟨o, es, ep, t, ho, _, hd, _⟩ => ⟨_, o, ho, fun vs z => by rw [hd] at z; cases z⟩
theorem setI_ok {P : Program} {w : World} {H : Hp} {h : Heap} {a : Addr} {L : List (Addr × List Int)} {es : Array (Int × Value)} {ep : Nat} {t : SetTable} (R : SetP P w h a L es ep t) : ObjOk P w H h a (SetI P w a L) := by
  obtain ⟨o, ho, _⟩ := R.ob
  refine ⟨⟨es, ep, t, R⟩, ⟨o, ho⟩, fun h1 h2 p kp => ?_⟩
  obtain ⟨es, ep, t, R⟩ := p
  obtain ⟨o, ho, r⟩ := R.ob
  exact ⟨es, ep, t, ⟨o, kp o ho, r⟩, R.rows, R.tab, R.one, R.pln, R.led, R.wide, R.few⟩
section
variable {X : Cx}
/-- set() for tuples -/
def rNewI (P : Program) (w : World) : List V → Hp → VK → Prop := fun xs H Q => xs = [] ∧ ∀ p, H p = none → Q (.ref p) (upd H p (SetI P w p []))
theorem cr_newI : CallR X (.type "set") (rNewI X.prog X.w) := by
  intro pins s σ H xs us Q I r h
  obtain ⟨rfl, q⟩ := h
  cases r
  refine setR_new fun _ => ?_
  have R : SetP X.prog X.w (s.heap.push { cls := .type "set", dict := none, data := .set #[] 0 (.fresh 0 0 (!X.w.params.followText "set-order")) }) s.heap.objs.size [] #[] 0 (.fresh 0 0 (!X.w.params.followText "set-order")) := by
    refine ⟨⟨_, Heap.get?_push_size _ rfl, ⟨rfl, rfl, rfl⟩, rfl⟩, rfl, ⟨List.Pairwise.nil, rfl, rfl, .a, fun i h j e => (by simp at e)⟩, List.nodup_nil, rfl, ?_, by show 0 * 5 < 7 * 3; decide, Nat.zero_le _⟩
    show _ ∨ (!X.w.params.followText "set-order") = true
    cases X.w.params.followText "set-order" <;> simp
  exact ⟨.ref _, _, I.laid (t' := s.toks) (fun b u e => Heap.get?_push_of_some _ e) (Nat.le_refl _) (setI_ok R), rfl, q _ (I.hok.fresh (Nat.le_refl _))⟩
/-- the tuples stand -/
def Tups (K : PySem.W.Frag) (H : Hp) (L : List (Addr × List Int)) : Prop := ∀ p ∈ L, SqT K H p.1 (p.2.map V.int)
/-- t in seen -/
def rInI (K : PySem.W.Frag) (P : Program) (w : World) : V → V → Hp → VK → Prop := fun x y H Q => ∃ (b a : Addr) (k : List Int) (L : List (Addr × List Int)), x = .ref b ∧ y = .ref a ∧ SqT K H b (k.map V.int) ∧ H a = some (SetI P w a L) ∧ Tups K H L ∧ Q (.bl (decide (k ∈ L.map (·.2)))) H
theorem op_inI (hu : X.A.units + 64 < cLine) : OpR X (compareOp .In) (rInI X.K X.prog X.w) := by
  intro pins s σ H x y v u Q I rx ry h
  obtain ⟨b, a, k, L, rfl, rfl, hb, ha, T, q⟩ := h
  cases rx
  cases ry
  obtain ⟨⟨es, ep, t, R⟩, _⟩ := I.hok a _ ha
  exact in_b R (fun p hp => I.isT (T p hp)) (I.isT hb) hu fun n => ⟨.bl _, H, I.tok _, rfl, q⟩
/-- seen.add(t) -/
def rAddI (K : PySem.W.Frag) (P : Program) (w : World) : V → List V → Hp → VK → Prop := fun x xs H Q => ∃ (b a : Addr) (k : List Int) (L : List (Addr × List Int)), x = .ref a ∧ xs = [.ref b] ∧ SqT K H b (k.map V.int) ∧ H a = some (SetI P w a L) ∧ Tups K H L ∧ L.length + 1 ≤ 1000 ∧
  ∀ L', (k ∈ L.map (·.2) → L' = L) → (k ∉ L.map (·.2) → L'.Perm ((b, k) :: L)) → Q .non (upd H a (SetI P w a L'))
theorem mt_addI (hu : X.A.units + 64 < cLine) : MtR X "set.add" (rAddI X.K X.prog X.w) := by
  intro pins s σ H x xs v us Q I rx rxs h
  obtain ⟨b, a, k, L, rfl, rfl, hb, ha, T, few, q⟩ := h
  cases rx
  obtain ⟨u, rfl, ru⟩ := vals1 rxs
  cases ru
  obtain ⟨⟨es, ep, t, R⟩, _⟩ := I.hok a _ ha
  refine put_b R (fun p hp => I.isT (T p hp)) (I.isT hb) hu few fun n h' L' es' ep' t' sb R' e1 e2 => ?_
  obtain ⟨o, ho, _⟩ := R'.ob
  exact ⟨.non, _, I.write (e := a) (t' := n) (by rw [ha]; trivial) (.inl rfl) (fun c u hc hu => (sb.2 c hc).trans hu) ⟨o, ho⟩ (setI_ok R'), rfl, q L' e1 e2⟩
end
end Sx


/-! KX: list(d.values()), seen.add(t). -/
namespace Sx
open PySem PySem.Spec PyProof.Rows L2
section
variable {X : Cx}
/-- list(e.values()) -/
def tVals (te : TE) : TE := fun σ H Q => te σ H fun x H1 => ∃ (d : Addr) (kvs : List (Key × V)), x = .ref d ∧ H1 d = some (.dK kvs) ∧ ∀ p, H1 p = none → Q (.ref p) (upd H1 p (.lst (kvs.map (·.2))))
theorem kv_vals : ∀ {kvs : List (Key × V)} {vs : List (Key × Value)}, KV kvs vs → Vals (kvs.map (·.2)) (vs.map (·.2))
  | _, _, .nil => .nil
  | _, _, .cons h t => .cons h.2 (kv_vals t)
theorem pe_listVals {e : Expr} {te : TE} {p apos cpos pos : Pos} (hc : X.calm = true) (he : PE X e te) (hg : Gl X "list") (hm : X.mg "list" = none) (hbase : attributeBase e "values" X.env (eval e X.env) = eval e X.env := by rfl) (hline : (apos.endLine == cpos.line) = true := by rfl)
    (hs : starEach [.Call (.Attribute e "values" apos) [] [] cpos] X.env = (false, eval (.Call (.Attribute e "values" apos) [] [] cpos) X.env) :: starEach [] X.env := by rfl) :
    PE X (.Call (.Name "list" p) [.Call (.Attribute e "values" apos) [] [] cpos] [] pos) (tVals te) := by
  refine ⟨fun pins s σ H Q I hq => ?_⟩
  refine wpAny_Call_Name_kw (ld_blt I hg hm (by decide +kernel : bootBuiltins "list" = some (.type "list")) ?_)
  refine PyProof.Rows.callWith_type1 ?_ hs rfl
  rw [hs]
  refine (Calls.spliced_cons ?_ : wpAny _ _ (spliced ((false, eval (.Call (.Attribute e "values" apos) [] [] cpos) X.env) :: backTo pos (starEach [] X.env))) _ _ s)
  refine wpAny_Call_method (T := "dict") (id := "dict.values") hbase rfl hline F.plainAttrs_dict F.slot_dict_values F.type_dict_values (thn (he.run pins s σ H _ I hq) fun u s1 ⟨x, H1, I1, rx, d, kvs, ex, hd, q⟩ => ?_)
  subst ex
  obtain rfl : u = Value.ref d := rx
  obtain ⟨hz, ns, vs, kv, hdo⟩ := I1.hok d _ hd
  obtain ⟨ep, hat⟩ := hdo.dictAt
  have lk : kvs.length = vs.length := Paired.length kv
  refine ⟨hdo.typeIs, hdo.mapOf.noDict, (?_ : wpAny _ _ (callWith cpos (.builtin "dict.values") [.ref d] [] []) _ X.xe s1)⟩
  refine method_meetsIn F.slot_dict_values F.entry_dict_values rfl (PySem.evalArgs_none ⟨rfl, hdo.typeIs, F.args_dict_values_1 _, _, meets_dict_values (mixKind X.prog X.w) d ns, ⟨vs, hdo⟩, Calls.spliced_nil ?_⟩)
  have I2 : Inv X pins σ H1 { s1 with heap := s1.heap.push { cls := .type "dict_values", data := .fields #[.ref d] } } := I1.kept (t' := s1.toks) fun b ob z => Heap.get?_push_of_some _ z
  refine PySem.W.kdl_call (PySem.W.kdl_values (knd := mixKind X.prog X.w) (kvs := vs) (ep := ep)) (I1.ok.hd hc) ⟨⟨_, Heap.get?_push_size _ rfl, rfl, rfl⟩, hat.push _⟩ (by omega) fun h' tk acc c hk hS it => ?_
  have ea : acc.toList = vs.map (·.2) := PySem.W.kdl_vals_eq _ (by rw [Array.length_toList]; exact it.1) fun j v hj => it.2 j v (by rw [← Array.getElem?_toList]; exact hj)
  refine ⟨.ref _, _, I2.laid (t' := tk) (o := .lst (kvs.map (·.2))) hk (Nat.le_refl _) ⟨by rw [List.length_map]; omega, acc.toList, c, by rw [ea]; exact kv_vals kv, hS⟩, rfl, q _ ?_⟩
  exact I2.hok.fresh (Nat.le_refl _)
/-- seen.add(t), t a tuple of ints -/
def tAddI (K : PySem.W.Frag) (P : Program) (w : World) (to : TE) (t : TA) : TE := fun σ H Q => to σ H fun x H1 => (∃ a L, x = V.ref a ∧ H1 a = some (SetI P w a L)) ∧ t σ H1 fun xs H2 => rAddI K P w x xs H2 Q
theorem pe_addI {o e : Expr} {es : List Expr} {to : TE} {t : TA} {apos cpos : Pos} (hu : X.A.units + 64 < cLine) (ho : PE X o to) (ha : PA X (e :: es) t) (hb : attributeBase o "add" X.env (eval o X.env) = eval o X.env := by rfl)
    (hf : ((backTo cpos (starEach (e :: es) X.env)).all (fun x => !x.1) && (backToKw cpos (keywordEach [] X.env)).all (fun x => x.1.isSome) && decide ((e :: es).length + ([] : List Keyword).length + (if ([] : List Keyword).isEmpty then 0 else 1) < 30)) = true := by rfl)
    (hl : (apos.endLine == cpos.line) = true := by rfl) (hs : starEach (e :: es) X.env = (false, eval e X.env) :: starEach es X.env := by rfl) (hp : (backTo cpos (starEach es X.env)).any (·.1) = false := by rfl) :
    PE X (.Call (.Attribute o "add" apos) (e :: es) [] cpos) (tAddI X.K X.prog X.w to t) := by
  refine ⟨fun pins s σ H Q I h => ?_⟩
  refine wpAny_Call_method_late hb hf hl rfl (thn (ho.run pins s σ H _ I h) fun v s1 ⟨x, H1, I1, rx, ⟨a, L, ex, hk⟩, q⟩ => ?_)
  subst ex
  obtain ⟨⟨es0, ep, t0, R⟩, _⟩ := I1.hok a _ hk
  have nd : ∀ b, Value.ref a = .ref b → ∃ ob, s1.heap.get? b = some ob ∧ ob.dict = none := fun b e => by
    cases e
    obtain ⟨o, ho, hx, _⟩ := R.ob
    exact ⟨o, ho, hx.2.1⟩
  cases rx
  refine ⟨"set", "set.add", F.plainAttrs_set, F.slot_set_add, F.type_set_add, R.typeIs (s := s1), nd, ?_⟩
  have args := ha.run cpos pins s1 σ H1 _ I1 q
  rw [hs] at args ⊢
  refine Calls.callWith_builtin ?_ (Calls.evalArgs_plain (thn args fun us s2 ⟨vs, H2, I2, r2, q2⟩ => mt_addI hu pins s2 σ H2 (.ref a) vs (.ref a) us Q I2 rfl r2 q2))
  show (false || (backTo cpos (starEach es X.env)).any (·.1)) = false
  rw [hp]; rfl
end
end Sx


/-! K3: steps for dicts, unpacking, sets of tuples, all(..), isinstance, going through. -/
namespace Ap
open PySem L2 PySem.Spec PyProof.Rows
section
variable {X : Cx} {K : PySem.W.Frag} {σ : L2.St} {H : Hp} {Q : VK} {v x y : V} {td ty tv te : TE} {ta : TA} {g : TG} {gs : TGs} {D : Ends} {R : L2.St → Hp → Prop}
instance i_kNT {A B : Hp → Prop} : St (kIf A B (!true) H) (B H) := ⟨g_kF⟩
instance i_kNF {A B : Hp → Prop} : St (kIf A B (!false) H) (A H) := ⟨g_kT⟩
/-! ### targets -/
instance i_gNil : St (gNil [] σ H R) (R σ H) := ⟨fun h => ⟨rfl, h⟩⟩
def kGc (gs : TGs) (r : List V) (R : L2.St → Hp → Prop) : L2.St → Hp → Prop := fun σ' H' => gs r σ' H' R
instance i_gCons {r : List V} : St (gCons g gs (v :: r) σ H R) (g v σ H (kGc gs r R)) := ⟨fun h => ⟨v, r, rfl, h⟩⟩
instance i_kGc {r : List V} : St (kGc gs r R σ H) (gs r σ H R) := ⟨id⟩
theorem g_gLst {a : Addr} {xs : List V} {n : Nat} (e : H a = some (.lst xs)) (l : xs.length = n) (h : gs xs σ H R) : gLst K n gs (.ref a) σ H R := ⟨a, xs, rfl, SqL.of e, l, h⟩
theorem g_gTup {a : Addr} {xs : List V} {n : Nat} (e : H a = some (.tup xs)) (l : xs.length = n) (h : gs xs σ H R) : gTup K n gs (.ref a) σ H R := ⟨a, xs, rfl, SqT.of e, l, h⟩
/-! ### dicts -/
def kD2 (ty : TE) (σ : L2.St) (f : V → V → Hp → Prop) : VK := fun x H1 => ty σ H1 fun y H2 => f x y H2
def kDf (f : V → V → Hp → Prop) (x : V) : VK := fun y H2 => f x y H2
instance i_kD2 {f : V → V → Hp → Prop} : St (kD2 ty σ f x H) (ty σ H (kDf f x)) := ⟨id⟩
def fGet (Q : VK) : V → V → Hp → Prop := fun x y H2 => ∃ a v, x = .ref a ∧ DGet H2 a y (some v) ∧ Q v H2
instance i_dget : St (tDGet td ty σ H Q) (td σ H (kD2 ty σ (fGet Q))) := ⟨id⟩
theorem g_get {a : Addr} {kvs : List (Key × V)} {k : Key} (e : H a = some (.dK kvs)) (ey : y = kV k) (hv : valV kvs k = some v) (h : Q v H) : kDf (fGet Q) (.ref a) y H := ⟨a, v, rfl, by rw [ey, ← hv]; exact DGet.k e, h⟩
def fIn (b : Bool) (Q : VK) : V → V → Hp → Prop := fun y x H2 => ∃ a o, x = .ref a ∧ DGet H2 a y o ∧ Q (.bl (if b = true then o.isSome else !o.isSome)) H2
instance i_din : St (tDIn ty td σ H Q) (ty σ H (kD2 td σ (fIn true Q))) := ⟨id⟩
instance i_dnotin : St (tDNotIn ty td σ H Q) (ty σ H (kD2 td σ (fIn false Q))) := ⟨id⟩
theorem g_din {a : Addr} {kvs : List (Key × V)} {k : Key} {b : Bool} (e : H a = some (.dK kvs)) (ey : y = kV k) (h : Q (.bl (if b = true then (valV kvs k).isSome else !(valV kvs k).isSome)) H) : kDf (fIn b Q) y (.ref a) H := ⟨a, _, rfl, by rw [ey]; exact DGet.k e, h⟩
def kP1 (td ty : TE) (σ : L2.St) (R : L2.St → Hp → Prop) : VK := fun v H1 => td σ H1 fun x H2 => ty σ H2 fun y H3 => ∃ a H4, x = .ref a ∧ DPut H3 a y v H4 ∧ R σ H4
def fPut (v : V) (σ : L2.St) (R : L2.St → Hp → Prop) : V → V → Hp → Prop := fun x y H3 => ∃ a H4, x = .ref a ∧ DPut H3 a y v H4 ∧ R σ H4
instance i_dput : St (sDPut td ty tv D σ H) (tv σ H (kP1 td ty σ D.nx)) := ⟨id⟩
instance i_kP1 : St (kP1 td ty σ R v H) (td σ H (kD2 ty σ (fPut v σ R))) := ⟨id⟩
theorem g_put {a : Addr} {kvs : List (Key × V)} {k : Key} (e : H a = some (.dK kvs)) (ey : y = kV k) (l : kvs.length < sizeLine) (h : R σ (upd H a (.dK (putK kvs k v)))) : kDf (fPut v σ R) (.ref a) y H := ⟨a, _, rfl, by rw [ey]; exact DPut.k e l, h⟩
theorem g_dnew (h : ∀ p, H p = none → Q (.ref p) (upd H p (.dK []))) : tDNewK σ H Q := h
def kSd1 (ty tv : TE) (σ : L2.St) (Q : VK) : VK := fun x H1 => ∃ a, x = .ref a ∧ IsD H1 a ∧ ty σ H1 fun y H2 => tv σ H2 fun z H3 => ∃ (kvs : List (Key × V)) (k : Key), H3 a = some (.dK kvs) ∧ y = kV k ∧ kvs.length < sizeLine ∧ (∀ v, valV kvs k = some v → Q v H3) ∧ (valV kvs k = none → Q z (upd H3 a (.dK (putK kvs k z))))
def fSd (a : Addr) (Q : VK) : V → V → Hp → Prop := fun y z H3 => ∃ (kvs : List (Key × V)) (k : Key), H3 a = some (.dK kvs) ∧ y = kV k ∧ kvs.length < sizeLine ∧ (∀ v, valV kvs k = some v → Q v H3) ∧ (valV kvs k = none → Q z (upd H3 a (.dK (putK kvs k z))))
instance i_dsetd : St (tDSetd td ty tv σ H Q) (td σ H (kSd1 ty tv σ Q)) := ⟨id⟩
theorem g_sd {a : Addr} {kvs : List (Key × V)} (e : H a = some (.dK kvs)) (h : ty σ H (kD2 tv σ (fSd a Q))) : kSd1 ty tv σ Q (.ref a) H := ⟨a, rfl, .inl ⟨kvs, Rd.of e⟩, h⟩
theorem g_sdk {a : Addr} {kvs : List (Key × V)} {k : Key} {z : V} (e : H a = some (.dK kvs)) (ey : y = kV k) (l : kvs.length < sizeLine) (h1 : ∀ v, valV kvs k = some v → Q v H) (h2 : valV kvs k = none → Q z (upd H a (.dK (putK kvs k z)))) : kDf (fSd a Q) y z H := ⟨kvs, k, e, ey, l, h1, h2⟩
def kVl (Q : VK) : VK := fun x H1 => ∃ (d : Addr) (kvs : List (Key × V)), x = .ref d ∧ H1 d = some (.dK kvs) ∧ ∀ p, H1 p = none → Q (.ref p) (upd H1 p (.lst (kvs.map (·.2))))
instance i_vals : St (Sx.tVals te σ H Q) (te σ H (kVl Q)) := ⟨id⟩
theorem g_kVl {d : Addr} {kvs : List (Key × V)} (e : H d = some (.dK kvs)) (h : ∀ p, H p = none → Q (.ref p) (upd H p (.lst (kvs.map (·.2))))) : kVl Q (.ref d) H := ⟨d, kvs, rfl, e, h⟩
/-! ### sets of tuples -/
def kAd (K : PySem.W.Frag) (P : Program) (w : World) (ta : TA) (σ : L2.St) (Q : VK) : VK := fun x H1 => (∃ a L, x = V.ref a ∧ H1 a = some (Sx.SetI P w a L)) ∧ ta σ H1 fun xs H2 => Sx.rAddI K P w x xs H2 Q
def kAd2 (K : PySem.W.Frag) (P : Program) (w : World) (x : V) (Q : VK) : LK := fun xs H2 => Sx.rAddI K P w x xs H2 Q
instance i_addI {P : Program} {w : World} : St (Sx.tAddI K P w te ta σ H Q) (te σ H (kAd K P w ta σ Q)) := ⟨id⟩
theorem g_kAd {P : Program} {w : World} {a : Addr} {L : List (Addr × List Int)} (e : H a = some (Sx.SetI P w a L)) (h : ta σ H (kAd2 K P w (.ref a) Q)) : kAd K P w ta σ Q (.ref a) H := ⟨⟨a, L, rfl, e⟩, h⟩
instance i_kAd2 {P : Program} {w : World} {xs : List V} : St (kAd2 K P w x Q xs H) (Sx.rAddI K P w x xs H Q) := ⟨id⟩
/-! ### all(..) -/
def kAl (K : PySem.W.Frag) (P : Addr) (Cn : L2.St → Hp → V → (Value → Prop) → Prop) (σ : L2.St) (Q : VK) : VK := fun v H1 => ∃ (yl : Addr) (ws : List V) (pb : V → Bool), v = .ref yl ∧ SqL K H1 yl ws ∧ (∀ w ∈ ws, Cn σ H1 w (· = .bool (pb w))) ∧ GxR.TabG H1 P ∧ ∀ H2, GxR.Tabbed P H1 H2 → Q (.bl (ws.all pb)) H2
instance i_all {P : Addr} {Cn : L2.St → Hp → V → (Value → Prop) → Prop} : St (tAllL K P Cn te σ H Q) (te σ H (kAl K P Cn σ Q)) := ⟨id⟩
/-! ### going through -/
instance i_lock {t : TS} : St (tLock t D σ H) (∃ d u, H d = some u ∧ Mut (some u) ∧ ∀ od, t ⟨fun σ' H' => H' d = some (.frz od u) ∧ D.nx σ' (upd H' d u), fun v H' => H' d = some (.frz od u) ∧ D.rt v (upd H' d u), fun σ' H' => H' d = some (.frz od u) ∧ D.bk σ' (upd H' d u), fun σ' H' => H' d = some (.frz od u) ∧ D.ct σ' (upd H' d u)⟩ σ (upd H d (.frz od u))) := ⟨id⟩
def kIK (R : It → Hp → Prop) : VK := fun x H1 => ∃ d o, x = .ref d ∧ ((∃ kvs, H1 d = some (.frz o (.dK kvs)) ∧ R (Itk d o kvs) H1) ∨ ∃ kvs, H1 d = some (.frz o (.dT kvs)) ∧ R (Itkt d o kvs) H1)
instance i_iKeys {R : It → Hp → Prop} : St (iKeys td σ H R) (td σ H (kIK R)) := ⟨id⟩
theorem g_kIK {R : It → Hp → Prop} {d : Addr} {o : Obj} {kvs : List (Key × V)} (e : H d = some (.frz o (.dK kvs))) (h : R (Itk d o kvs) H) : kIK R (.ref d) H := ⟨d, o, rfl, .inl ⟨kvs, e, h⟩⟩
def kIEn (K : PySem.W.Frag) (R : It → Hp → Prop) : LK := fun vs H1 => ∃ a xs, vs = [.ref a] ∧ SqL K H1 a xs ∧ R (Ite K a) H1
instance i_iEnum {R : It → Hp → Prop} : St (iEnum K ta σ H R) (ta σ H (kIEn K R)) := ⟨id⟩
theorem g_kIEn {R : It → Hp → Prop} {a : Addr} {xs : List V} (e : H a = some (.lst xs)) (h : R (Ite K a) H) : kIEn K R [.ref a] H := ⟨a, xs, rfl, SqL.of e, h⟩
/-- by any walk -/
theorem g_it {J : It} {n : Nat} {G : Hp → Prop} {Y : Nat → Hp → V → Hp → Prop} (w : Walk J n G Y) {tb : TS} (Pv : Nat → L2.St → Hp → Prop) (h0 : Pv 0 σ H) (hG : ∀ i σ H, i ≤ n → Pv i σ H → G H)
    (hs : ∀ i x σ H H', i < n → Pv i σ H → Y i H x H' → g x σ H' (tb ⟨Pv (i + 1), D.rt, D.nx, Pv (i + 1)⟩)) (hd : ∀ σ H, Pv n σ H → D.nx σ H) : kFor g tb D σ J H := for_it w Pv h0 hG hs hd
/-! ### a < b < c -/
def kCh1 (r r' : R2) (tb tc : TE) (σ : L2.St) (Q : VK) : VK := fun x H1 => tb σ H1 fun y H2 => r x y H2 fun z H3 => ∃ k, z = .bl k ∧ (if k = true then tc σ H3 fun w' H4 => r' y w' H4 Q else Q (.bl false) H3)
def kCh2 (r r' : R2) (tc : TE) (x : V) (σ : L2.St) (Q : VK) : VK := fun y H2 => r x y H2 fun z H3 => ∃ k, z = .bl k ∧ (if k = true then tc σ H3 fun w' H4 => r' y w' H4 Q else Q (.bl false) H3)
def kCh3 (r' : R2) (tc : TE) (y : V) (σ : L2.St) (Q : VK) : VK := fun z H3 => ∃ k, z = .bl k ∧ (if k = true then tc σ H3 fun w' H4 => r' y w' H4 Q else Q (.bl false) H3)
instance i_chain {r r' : R2} {ta tb tc : TE} : St (tChain r r' ta tb tc σ H Q) (ta σ H (kCh1 r r' tb tc σ Q)) := ⟨id⟩
instance i_kCh1 {r r' : R2} {tb tc : TE} : St (kCh1 r r' tb tc σ Q x H) (tb σ H (kCh2 r r' tc x σ Q)) := ⟨id⟩
instance i_kCh2 {r r' : R2} {tc : TE} : St (kCh2 r r' tc x σ Q y H) (r x y H (kCh3 r' tc y σ Q)) := ⟨id⟩
instance i_kCh3 {r' : R2} {tc : TE} {k : Bool} : St (kCh3 r' tc y σ Q (.bl k) H) (kIf (fun H3 => tc σ H3 (kO2 r' y Q)) (fun H3 => Q (.bl false) H3) k H) := ⟨fun h => ⟨k, rfl, h⟩⟩
/-! ### isinstance -/
theorem g_isi {T T' : String} {b : Bool} (t : TyX K H x (.type T')) (k : kitB T' T = some b) (h : Q (.bl b) H) : rIsi K [x, .ty T] H Q := ⟨x, .ty T, _, _, b, rfl, .ty T, t, kit_ty k, h⟩
end
theorem upd_swap {H : Hp} {a b : Addr} {x y : HO} (h : b ≠ a) : upd (upd H a x) b y = upd (upd H b y) a x := funext fun c => by
  by_cases h1 : c = b
  · rw [h1, upd_same, upd_ne h, upd_same]
  · rw [upd_ne h1]
    by_cases h2 : c = a
    · rw [h2, upd_same, upd_same]
    · rw [upd_ne h2, upd_ne h2, upd_ne h1]
theorem upd_upd {H : Hp} {a : Addr} {x y : HO} : upd (upd H a x) a y = upd H a y := funext fun c => by
  by_cases h : c = a
  · rw [h, upd_same, upd_same]
  · rw [upd_ne h, upd_ne h, upd_ne h]
theorem upd_id {H : Hp} {a : Addr} {x : HO} (e : H a = some x) : upd H a x = H := funext fun c => by
  by_cases h : c = a
  · rw [h, upd_same, e]
  · rw [upd_ne h]
/-- a table alone has grown -/
theorem Kp.tabbed {T : Addr} {H H' : Hp} (lg : lamT T = none) (g : GxR.TabG H T) (h : GxR.Tabbed T H H') : Kp [] H H' := by
  obtain ⟨ps, e, t⟩ := g
  obtain ⟨⟨ps', e', t'⟩, k⟩ := h
  refine ⟨fun b o _ hb n => ?_, fun b qs hb tq => ?_, fun b o hb => ?_, fun b q l ht => ?_⟩
  rotate_right
  · obtain ⟨qs, q1, q2, q3⟩ := ht
    refine ⟨qs, (k b fun z => by rw [z, lg] at l; cases l).trans q1, q2, fun pos cv hc => ?_⟩
    obtain ⟨c, c1, c2⟩ := q3 pos cv hc
    exact ⟨c, c1, (k c fun z => by rw [z, e] at c2; exact LamX.codeO_ne ps (Option.some.inj c2).symm).trans c2⟩
  · rw [k b fun z => n ps (by rw [z, e] at hb; exact (Option.some.inj hb).symm)]; exact hb
  · by_cases z : b = T
    · rw [z]; exact ⟨ps', e', t'⟩
    · exact ⟨qs, (k b z).trans hb, tq⟩
  · by_cases z : b = T
    · rw [z]; exact ⟨_, e'⟩
    · exact ⟨o, (k b z).trans hb⟩
theorem _root_.Sx.Tups.kp {K : PySem.W.Frag} {H H' : Hp} {L : List (Addr × List Int)} (h : Sx.Tups K H L) (k : Kp [] H H') : Sx.Tups K H' L := fun p hp => by
  rcases h p hp with (h | ⟨o, h⟩) | h
  · exact .inl (.inl (k.tup nin0 h))
  · exact .inl (.inr ⟨o, k.frz nin0 h⟩)
  · exact .inr h
/-- a generator expression's scope within a def -/
theorem gs_of {qual : Str} {sc scope : Scope} {L f : Addr} {cdv : Value} {x : Str} (k : scope.kind = .function) (co : scope.isCoroutine = false) (ce : ∀ y ∈ scope.names, y.2 ≠ .cell) (dot : scope.names.lookup (".0" : Str) = some NameKind.local) (loc : scope.names.lookup x = some .local)
    (fr : ∀ y ∈ scope.names, y.2 = .free → sc.names.lookup y.1 = some .cell) : GxR.GenS (envOfC qual sc L f cdv) scope x :=
  ⟨k, co, ce, dot, loc, fun y hy hf => Option.isSome_iff_exists.mp (PySem.W.cellsFrom_some _ _ _ (.inl (fr y hy hf)))⟩
end Ap
namespace Ap
open PySem L2 PySem.Spec PyProof.Rows
/-! ### list comprehensions -/
section
variable {K : PySem.W.Frag} {σ : L2.St} {H : Hp} {Q : VK} {te : TE} {tt : TT} {g : TG} {vs : List Nat} {D : Addr} {N : Hp → Prop} {y : V}
def kLc (g : TG) (tt : TT) (te : TE) (vs : List Nat) (σ : L2.St) (Q : VK) : It → Hp → Prop := fun J H1 => ∀ D, H1 D = none → ∃ W : Nat → Nat → Hp → Prop, (∃ m, W 0 m (upd H1 D (.lst []))) ∧ ∀ i m H, W i m H →
  (J.stop i H ∧ Q (.ref D) H) ∨ (J.go i H ∧ ∃ Nx : Hp → Prop, (∀ H', Nx H' → ∃ m', m' < m ∧ W (i + 1) m' H') ∧ ∀ x H', J.yld i H x H' → g x (wipe σ vs) H' fun σ2 H2 => wipe σ2 vs = wipe σ vs ∧ tt σ2 H2 fun b H3 =>
    if b = true then te σ2 H3 fun y H4 => ∃ acc, H4 D = some (.lst acc) ∧ acc.length < sizeLine ∧ Nx (upd H4 D (.lst (acc ++ [y]))) else Nx H3)
instance i_lc {wi : TI} : St (tLc wi g tt te vs σ H Q) (wi σ H (kLc g tt te vs σ Q)) := ⟨id⟩
def kLe (D : Addr) (N : Hp → Prop) : VK := fun y H4 => ∃ acc, H4 D = some (.lst acc) ∧ acc.length < sizeLine ∧ N (upd H4 D (.lst (acc ++ [y])))
def kLg (tt : TT) (te : TE) (D : Addr) (vs : List Nat) (w0 : L2.St) (N : Hp → Prop) : L2.St → Hp → Prop := fun σ2 H2 => wipe σ2 vs = w0 ∧ tt σ2 H2 (kIf (fun H3 => te σ2 H3 (kLe D N)) N)
theorem g_kLg {w0 : L2.St} (e : wipe σ vs = w0) (h : tt σ H (kIf (fun H3 => te σ H3 (kLe D N)) N)) : kLg tt te D vs w0 N σ H := ⟨e, h⟩
theorem g_kLe {acc : List V} (e : H D = some (.lst acc)) (l : acc.length < sizeLine) (h : N (upd H D (.lst (acc ++ [y])))) : kLe D N y H := ⟨acc, e, l, h⟩
instance i_yes {R : Bool → Hp → Prop} : St (tYes σ H R) (R true H) := ⟨id⟩
/-- by any walk; w0: the slots with the comprehension's own ones empty -/
theorem g_lc {J : It} {n : Nat} {G : Hp → Prop} {Y : Nat → Hp → V → Hp → Prop} (w : Walk J n G Y) {w0 : L2.St} (ew : wipe σ vs = w0)
    (h : ∀ D, H D = none → ∃ Pv : Nat → Hp → Prop, Pv 0 (upd H D (.lst [])) ∧ (∀ i H, i ≤ n → Pv i H → G H) ∧ (∀ i x H1 H', i < n → Pv i H1 → Y i H1 x H' → g x w0 H' (kLg tt te D vs w0 (Pv (i + 1)))) ∧ ∀ H, Pv n H → Q (.ref D) H) : kLc g tt te vs σ Q J H := by
  subst ew
  intro D hD
  obtain ⟨Pv, h0, hG, hs, hd⟩ := h D hD
  exact lc_it w Pv h0 hG hs hd
end
/-- a comprehension within a comprehension -/
def relS (sc0 sc : Scope) : Scope := relabel sc0 { scope := sc, locals := 0, globals := 0, cells := [] }
theorem blkOk_in {N : List Str} {sc0 sc scope : Scope} {own : List (Str × Nat)} {env : Env} (e : env.scope = sc) (h : blkC N (relS sc0 sc) scope own = true) : BlkOk N (relabel sc0 env) scope own := by
  subst e
  exact blkOk_by h
mutual
/-- a new thing is none of the data's -/
theorem Da.fresh {P : Addr → Prop} {H : Hp} {p : Addr} {o : HO} (hp : H p = none) : ∀ {d : PyData} {v : V}, Da P H v d → Da (fun b => P b ∧ b ≠ p) (upd H p o) v d
  | _, _, .non => .non
  | _, _, .bl b => .bl b
  | _, _, .int i => .int i
  | _, _, .str x => .str x
  | _, _, .lst h e a => .lst ⟨h, ne_of_none e hp⟩ (by rw [upd_ne (ne_of_none e hp)]; exact e) (DaAll.fresh hp a)
  | _, _, .tup h e a => .tup ⟨h, ne_of_none e hp⟩ (by rw [upd_ne (ne_of_none e hp)]; exact e) (DaAll.fresh hp a)
theorem DaAll.fresh {P : Addr → Prop} {H : Hp} {p : Addr} {o : HO} (hp : H p = none) : ∀ {ds : List PyData} {vs : List V}, DaAll P H vs ds → DaAll (fun b => P b ∧ b ≠ p) (upd H p o) vs ds
  | _, _, .nil => .nil
  | _, _, .cons h t => .cons (Da.fresh hp h) (DaAll.fresh hp t)
end
mutual
/-- a thing that is none of the data's is changed -/
theorem Da.other {P : Addr → Prop} {H : Hp} {p : Addr} {o : HO} (hp : ∀ b, P b → b ≠ p) : ∀ {d : PyData} {v : V}, Da P H v d → Da P (upd H p o) v d
  | _, _, .non => .non
  | _, _, .bl b => .bl b
  | _, _, .int i => .int i
  | _, _, .str x => .str x
  | _, _, .lst h e a => .lst h (by rw [upd_ne (hp _ h)]; exact e) (DaAll.other hp a)
  | _, _, .tup h e a => .tup h (by rw [upd_ne (hp _ h)]; exact e) (DaAll.other hp a)
theorem DaAll.other {P : Addr → Prop} {H : Hp} {p : Addr} {o : HO} (hp : ∀ b, P b → b ≠ p) : ∀ {ds : List PyData} {vs : List V}, DaAll P H vs ds → DaAll P (upd H p o) vs ds
  | _, _, .nil => .nil
  | _, _, .cons h t => .cons (Da.other hp h) (DaAll.other hp t)
end
theorem Da.imp {P P' : Addr → Prop} {H : Hp} {v : V} {d : PyData} (h : Da P H v d) (w : ∀ b, P b → P' b) : Da P' H v d := h.keep (Kp.refl [] _) (fun _ _ => nin0) w
theorem DaAll.imp {P P' : Addr → Prop} {H : Hp} {vs : List V} {ds : List PyData} (h : DaAll P H vs ds) (w : ∀ b, P b → P' b) : DaAll P' H vs ds := h.keep (Kp.refl [] _) (fun _ _ => nin0) w
mutual
/-- what the data stand at is there -/
theorem Da.here {P : Addr → Prop} {H : Hp} : ∀ {d : PyData} {v : V}, Da P H v d → Da (fun b => P b ∧ H b ≠ none) H v d
  | _, _, .non => .non
  | _, _, .bl b => .bl b
  | _, _, .int i => .int i
  | _, _, .str x => .str x
  | _, _, .lst h e a => .lst ⟨h, by rw [e]; exact Option.some_ne_none _⟩ e (DaAll.here a)
  | _, _, .tup h e a => .tup ⟨h, by rw [e]; exact Option.some_ne_none _⟩ e (DaAll.here a)
theorem DaAll.here {P : Addr → Prop} {H : Hp} : ∀ {ds : List PyData} {vs : List V}, DaAll P H vs ds → DaAll (fun b => P b ∧ H b ≠ none) H vs ds
  | _, _, .nil => .nil
  | _, _, .cons h t => .cons (Da.here h) (DaAll.here t)
end
end Ap


/-! N0: nets in plain words. -/
namespace Ap
open PySem L2
abbrev Tie := Int × Int
/-- two ties do not tie the same two -/
def Apart (s t : Tie) : Prop := ¬ (s.1 = t.1 ∧ s.2 = t.2) ∧ ¬ (s.1 = t.2 ∧ s.2 = t.1)
/-- ties of different seats of S, no two seats twice -/
structure NetS (S : List Int) (ts : List Tie) : Prop where
  mem : ∀ t ∈ ts, t.1 ∈ S ∧ t.2 ∈ S ∧ t.1 ≠ t.2
  ap : ts.Pairwise Apart
theorem NetS.nil (S : List Int) : NetS S [] := ⟨fun _ h => (nomatch h), .nil⟩
theorem NetS.mono {S S' : List Int} {ts : List Tie} (h : NetS S ts) (k : ∀ x ∈ S, x ∈ S') : NetS S' ts := ⟨fun t m => ⟨k _ (h.mem t m).1, k _ (h.mem t m).2.1, (h.mem t m).2.2⟩, h.ap⟩
theorem NetS.snoc {S : List Int} {ts : List Tie} (h : NetS S ts) {t : Tie} (h1 : t.1 ∈ S) (h2 : t.2 ∈ S) (ne : t.1 ≠ t.2) (ap : ∀ s ∈ ts, Apart s t) : NetS S (ts ++ [t]) := by
  refine ⟨fun s m => ?_, List.pairwise_append.mpr ⟨h.ap, List.pairwise_singleton _ _, fun s hs u hu => ?_⟩⟩
  · rcases List.mem_append.mp m with m | m
    · exact h.mem s m
    · obtain rfl := List.mem_singleton.mp m
      exact ⟨h1, h2, ne⟩
  · obtain rfl := List.mem_singleton.mp hu
    exact ap s hs
/-- a new seat x is tied -/
theorem NetS.new {S : List Int} {ts : List Tie} (h : NetS S ts) {x y : Int} (hx : x ∉ S) (hy : y ∈ S) : NetS (S ++ [x]) (ts ++ [(x, y)]) ∧ NetS (S ++ [x]) (ts ++ [(y, x)]) := by
  have m : ∀ z ∈ S, z ∈ S ++ [x] := fun z hz => List.mem_append_left _ hz
  have ne : x ≠ y := fun z => hx (z ▸ hy)
  have xm : x ∈ S ++ [x] := List.mem_append_right _ (List.mem_singleton.mpr rfl)
  have o : ∀ s ∈ ts, s.1 ≠ x ∧ s.2 ≠ x := fun s hs => ⟨fun z => hx (z ▸ (h.mem s hs).1), fun z => hx (z ▸ (h.mem s hs).2.1)⟩
  refine ⟨(h.mono m).snoc xm (m y hy) ne fun s hs => ⟨fun z => (o s hs).1 z.1, fun z => (o s hs).2 z.2⟩, (h.mono m).snoc (m y hy) xm (Ne.symm ne) fun s hs => ⟨fun z => (o s hs).2 z.2, fun z => (o s hs).1 z.1⟩⟩
theorem take_succ' {ls : List Int} {i : Nat} {x : Int} (h : ls[i]? = some x) : ls.take (i + 1) = ls.take i ++ [x] := by
  rw [List.take_add_one, h]; rfl
theorem not_mem_take {ls : List Int} (nd : ls.Nodup) {i : Nat} {x : Int} (h : ls[i]? = some x) : x ∉ ls.take i := by
  intro z
  obtain ⟨j, hj, e⟩ := List.getElem_of_mem z
  rw [List.length_take] at hj
  rw [List.getElem_take] at e
  obtain ⟨hi, e2⟩ := List.getElem?_eq_some_iff.mp h
  have := (List.getElem_inj nd).mp (e.trans e2.symm)
  omega
theorem mem_take {ls : List Int} {i j : Nat} {x : Int} (h : ls[j]? = some x) (l : j < i) : x ∈ ls.take i := by
  obtain ⟨hj, e⟩ := List.getElem?_eq_some_iff.mp h
  rw [← e]
  exact List.mem_take_iff_getElem.mpr ⟨j, by omega, rfl⟩
def tieD (t : Tie) : PyData := .list [.int t.1, .int t.2]
def netD (ts : List Tie) : PyData := .list (ts.map tieD)
theorem ints_perm {ys : List V} {ns : List Int} (h : ys.Perm (ns.map V.int)) : ∃ ls : List Int, ys = ls.map V.int ∧ ls.Perm ns := by
  let un : V → Int := fun v => match v with
    | .int i => i
    | _ => 0
  have e : ∀ l : List Int, (l.map V.int).map un = l := fun l => by
    rw [List.map_map]
    exact (List.map_congr_left (fun _ _ => rfl)).trans (List.map_id l)
  refine ⟨ys.map un, ?_, by rw [← e ns]; exact h.map un⟩
  have all : ∀ y ∈ ys, V.int (un y) = y := fun y hy => by
    obtain ⟨i, _, rfl⟩ := List.mem_map.mp (h.mem_iff.mp hy)
    rfl
  rw [List.map_map]
  exact ((List.map_congr_left (f := V.int ∘ un) (g := id) all).trans (List.map_id ys)).symm
/-- 1, 2 .. n -/
def up (n : Nat) : List Int := (List.range n).map fun i => (1 : Int) + (i : Nat)
theorem up_mem {n : Nat} {x : Int} : x ∈ up n ↔ 1 ≤ x ∧ x ≤ n := by
  unfold up
  rw [List.mem_map]
  constructor
  · rintro ⟨i, hi, rfl⟩
    have := List.mem_range.mp hi
    omega
  · intro ⟨h1, h2⟩
    exact ⟨(x - 1).toNat, List.mem_range.mpr (by omega), by omega⟩
theorem up_length (n : Nat) : (up n).length = n := by simp [up]
theorem up_nodup (n : Nat) : (up n).Nodup := by
  unfold up
  exact List.Pairwise.map _ (fun a b h => by omega) List.nodup_range
theorem rgV_up (n : Nat) : rgV 1 ((n : Int) + 1) = (up n).map V.int := by
  unfold rgV up
  rw [List.map_map, show ((n : Int) + 1 - 1).toNat = n by omega]
  rfl
end Ap


/-! N1: what hangs together, by gluing ties one after the other. -/
namespace Ap
def glue (m : Int → Int) (t : Tie) : Int → Int := fun x => if m x = max (m t.1) (m t.2) then min (m t.1) (m t.2) else m x
/-- the least seat that hangs together with x -/
def kin (ts : List Tie) : Int → Int := ts.foldl glue id
theorem kin_nil (x : Int) : kin [] x = x := rfl
theorem kin_snoc (ts : List Tie) (t : Tie) : kin (ts ++ [t]) = glue (kin ts) t := by
  unfold kin
  rw [List.foldl_append]; rfl
theorem snoc_ind {α : Type} {P : List α → Prop} (h0 : P []) (hs : ∀ l a, P l → P (l ++ [a])) : ∀ l, P l := fun l => by
  have key : ∀ n (l : List α), l.length = n → P l := by
    intro n
    induction n with
    | zero => intro l e; rw [List.eq_nil_of_length_eq_zero e]; exact h0
    | succ n ih =>
      intro l e
      have ne : l ≠ [] := fun z => by rw [z] at e; cases e
      rw [← List.dropLast_concat_getLast ne]
      exact hs _ _ (ih _ (by rw [List.length_dropLast]; omega))
  exact key _ l rfl
theorem kin_le (ts : List Tie) : ∀ x, kin ts x ≤ x := by
  induction ts using snoc_ind with
  | h0 => intro x; exact Int.le_refl x
  | hs ts t ih =>
    intro x
    rw [kin_snoc]
    unfold glue
    have := ih x
    split <;> omega
theorem kin_mk (ts : List Tie) : ∀ x, kin ts (kin ts x) = kin ts x := by
  induction ts using snoc_ind with
  | h0 => intro x; rfl
  | hs ts t ih =>
    intro x
    rw [kin_snoc]
    have a := ih t.1
    have b := ih t.2
    have c := ih x
    have low : kin ts (min (kin ts t.1) (kin ts t.2)) = min (kin ts t.1) (kin ts t.2) := by
      rcases Int.le_total (kin ts t.1) (kin ts t.2) with h | h
      · rw [Int.min_eq_left h, a]
      · rw [Int.min_eq_right h, b]
    show glue (kin ts) t (glue (kin ts) t x) = glue (kin ts) t x
    by_cases h : kin ts x = max (kin ts t.1) (kin ts t.2)
    · have e : glue (kin ts) t x = min (kin ts t.1) (kin ts t.2) := if_pos h
      rw [e]
      unfold glue
      rw [low]
      split <;> omega
    · have e : glue (kin ts) t x = kin ts x := if_neg h
      rw [e]
      unfold glue
      rw [c, if_neg h]
theorem kin_tie (ts : List Tie) : ∀ t ∈ ts, kin ts t.1 = kin ts t.2 := by
  induction ts using snoc_ind with
  | h0 => intro t h; cases h
  | hs ts u ih =>
    intro t h
    rw [kin_snoc]
    unfold glue
    rcases List.mem_append.mp h with h | h
    · rw [ih t h]
    · obtain rfl := List.mem_singleton.mp h
      split <;> split <;> omega
/-- what is closed under ties is so for all that hang together -/
theorem kin_closed (ts : List Tie) : ∀ (C : Int → Prop), (∀ t ∈ ts, C t.1 ↔ C t.2) → ∀ x y, kin ts x = kin ts y → (C x ↔ C y) := by
  induction ts using snoc_ind with
  | h0 => intro C _ x y e; rw [show x = y from e]
  | hs ts t ih =>
    intro C hC x y e
    have h1 := ih C fun s hs => hC s (List.mem_append_left _ hs)
    have h2 := hC t (List.mem_append_right _ (List.mem_singleton.mpr rfl))
    rw [kin_snoc] at e
    unfold glue at e
    have ends : ∀ z, kin ts z = max (kin ts t.1) (kin ts t.2) ∨ kin ts z = min (kin ts t.1) (kin ts t.2) → (C z ↔ C t.1) := fun z hz => by
      have : kin ts z = kin ts t.1 ∨ kin ts z = kin ts t.2 := by omega
      rcases this with q | q
      · exact h1 z t.1 q
      · exact (h1 z t.2 q).trans h2.symm
    by_cases hx : kin ts x = max (kin ts t.1) (kin ts t.2)
    · rw [if_pos hx] at e
      by_cases hy : kin ts y = max (kin ts t.1) (kin ts t.2)
      · exact h1 x y (hx.trans hy.symm)
      · rw [if_neg hy] at e
        exact (ends x (.inl hx)).trans (ends y (.inr e.symm)).symm
    · rw [if_neg hx] at e
      by_cases hy : kin ts y = max (kin ts t.1) (kin ts t.2)
      · rw [if_pos hy] at e
        exact (ends x (.inr e)).trans (ends y (.inl hy)).symm
      · rw [if_neg hy] at e
        exact h1 x y e
theorem kin_in {S : List Int} {ts : List Tie} (h : ∀ t ∈ ts, t.1 ∈ S ∧ t.2 ∈ S) {x : Int} (hx : x ∈ S) : kin ts x ∈ S := by
  refine (kin_closed ts (· ∈ S) (fun t ht => ?_) x (kin ts x) (kin_mk ts x).symm).mp hx
  exact ⟨fun _ => (h t ht).2, fun _ => (h t ht).1⟩
/-- a search from s: ks: found, la: to be looked at, ex: being looked at; ks0: found ahead of it -/
structure Dfs (n : Nat) (ts : List Tie) (ks0 : List Int) (s : Int) (ex : Int → Prop) (ks la : List Int) : Prop where
  nd : ks.Nodup
  sub : ∀ x ∈ ks, x ∈ up n
  old : ∀ x ∈ ks0, x ∈ ks
  new : ∀ x ∈ ks, x ∈ ks0 ∨ kin ts x = s
  here : s ∈ ks
  st : ∀ x ∈ la, x ∈ ks ∧ kin ts x = s
  done : ∀ x ∈ ks, kin ts x = s → x ∉ la → ¬ ex x → ∀ y, (x, y) ∈ ts ∨ (y, x) ∈ ts → y ∈ ks
/-- what has been found ahead: all that hangs together with 1 .. i -/
structure Found (n : Nat) (ts : List Tie) (i : Nat) (ks : List Int) : Prop where
  nd : ks.Nodup
  sub : ∀ x ∈ ks, x ∈ up n
  has : ∀ x ∈ up i, x ∈ ks
  cl : ∀ x ∈ ks, ∀ y ∈ up n, kin ts y = kin ts x → y ∈ ks
theorem Found.nil (n : Nat) (ts : List Tie) : Found n ts 0 [] := ⟨List.nodup_nil, fun _ h => (nomatch h), fun x h => (by have := up_mem.mp h; omega), fun _ h => (nomatch h)⟩
theorem Found.root {n i : Nat} {ts : List Tie} {ks : List Int} (F : Found n ts i ks) (hN : NetS (up n) ts) (hi : i < n) (h : ((i : Int) + 1) ∉ ks) : kin ts ((i : Int) + 1) = (i : Int) + 1 := by
  have m := kin_in (fun t ht => ⟨(hN.mem t ht).1, (hN.mem t ht).2.1⟩) (up_mem.mpr ⟨by omega, by omega⟩ : ((i : Int) + 1) ∈ up n)
  have le := kin_le ts ((i : Int) + 1)
  by_cases c : kin ts ((i : Int) + 1) = (i : Int) + 1
  · exact c
  · have b := up_mem.mp m
    exact absurd (F.cl _ (F.has _ (up_mem.mpr ⟨b.1, by omega⟩)) _ (up_mem.mpr ⟨by omega, by omega⟩) (kin_mk ts _).symm) h
theorem Found.more {n i : Nat} {ts : List Tie} {ks : List Int} (F : Found n ts i ks) (h : ((i : Int) + 1) ∈ ks) : Found n ts (i + 1) ks := by
  refine ⟨F.nd, F.sub, fun x hx => ?_, F.cl⟩
  have b := up_mem.mp hx
  by_cases c : x = (i : Int) + 1
  · rw [c]; exact h
  · exact F.has x (up_mem.mpr ⟨b.1, by omega⟩)
theorem Dfs.start {n i : Nat} {ts : List Tie} {ks : List Int} (F : Found n ts i ks) (hN : NetS (up n) ts) (hi : i < n) (h : ((i : Int) + 1) ∉ ks) : Dfs n ts ks ((i : Int) + 1) (fun _ => False) (ks ++ [(i : Int) + 1]) [(i : Int) + 1] := by
  have r := F.root hN hi h
  have s : ∀ x, x ∈ ks ++ [(i : Int) + 1] → x ∈ ks ∨ x = (i : Int) + 1 := fun x hx => (List.mem_append.mp hx).imp id List.mem_singleton.mp
  refine ⟨List.nodup_append.mpr ⟨F.nd, List.nodup_cons.mpr ⟨(nomatch ·), List.nodup_nil⟩, fun a ha b hb z => h ?_⟩, fun x hx => ?_, fun x hx => List.mem_append_left _ hx, fun x hx => ?_, List.mem_append_right _ (List.mem_singleton.mpr rfl), fun x hx => ?_, fun x hx e nl _ => ?_⟩
  · rw [← List.mem_singleton.mp hb, ← z]; exact ha
  · rcases s x hx with q | rfl
    · exact F.sub x q
    · exact up_mem.mpr ⟨by omega, by omega⟩
  · rcases s x hx with q | rfl
    · exact .inl q
    · exact .inr r
  · obtain rfl := List.mem_singleton.mp hx
    exact ⟨List.mem_append_right _ hx, r⟩
  · rcases s x hx with q | rfl
    · exact absurd (F.cl x q _ (up_mem.mpr ⟨by omega, by omega⟩) (r.trans e.symm)) h
    · exact absurd (List.mem_singleton.mpr rfl) nl
theorem Dfs.stop {n i : Nat} {ts : List Tie} {ks0 ks : List Int} (F : Found n ts i ks0) (hi : i < n) (h : ((i : Int) + 1) ∉ ks0) (D : Dfs n ts ks0 ((i : Int) + 1) (fun _ => False) ks []) (r : kin ts ((i : Int) + 1) = (i : Int) + 1) : Found n ts (i + 1) ks := by
  have key : ∀ y, kin ts y = (i : Int) + 1 → y ∈ ks := fun y hy => by
    have := (kin_closed ts (fun x => x ∈ ks ∧ kin ts x = (i : Int) + 1) (fun t ht => ?_) ((i : Int) + 1) y (r.trans hy.symm)).mp ⟨D.here, r⟩
    · exact this.1
    · have e := kin_tie ts t ht
      constructor
      · rintro ⟨a, b⟩
        exact ⟨D.done _ a b (nomatch ·) id _ (.inl ht), e ▸ b⟩
      · rintro ⟨a, b⟩
        exact ⟨D.done _ a b (nomatch ·) id _ (.inr ht), e ▸ b⟩
  refine Found.more (i := i) ⟨D.nd, D.sub, fun x hx => D.old x (F.has x hx), fun x hx y hy e => ?_⟩ D.here
  rcases D.new x hx with q | q
  · exact D.old y (F.cl x q y hy e)
  · exact key y (e.trans q)
/-- the last one is taken to be looked at -/
theorem Dfs.take {n : Nat} {ts : List Tie} {ks0 ks la : List Int} {s u : Int} (D : Dfs n ts ks0 s (fun _ => False) ks (la ++ [u])) : Dfs n ts ks0 s (· = u) ks la :=
  ⟨D.nd, D.sub, D.old, D.new, D.here, fun x hx => D.st x (List.mem_append_left _ hx), fun x hx e nl nu => D.done x hx e (fun z => by
    rcases List.mem_append.mp z with z | z
    · exact nl z
    · exact nu (List.mem_singleton.mp z)) id⟩
theorem Dfs.push {n : Nat} {ts : List Tie} {ks0 ks la : List Int} {s u y : Int} (D : Dfs n ts ks0 s (· = u) ks la) (h : y ∉ ks) (hy : y ∈ up n) (e : kin ts y = s) : Dfs n ts ks0 s (· = u) (ks ++ [y]) (la ++ [y]) := by
  have s' : ∀ x, x ∈ ks ++ [y] → x ∈ ks ∨ x = y := fun x hx => (List.mem_append.mp hx).imp id List.mem_singleton.mp
  refine ⟨List.nodup_append.mpr ⟨D.nd, List.nodup_cons.mpr ⟨(nomatch ·), List.nodup_nil⟩, fun a ha b hb z => h ?_⟩, fun x hx => ?_, fun x hx => List.mem_append_left _ (D.old x hx), fun x hx => ?_, List.mem_append_left _ D.here, fun x hx => ?_, fun x hx e' nl nu z hz => ?_⟩
  · rw [← List.mem_singleton.mp hb, ← z]; exact ha
  · rcases s' x hx with q | rfl
    · exact D.sub x q
    · exact hy
  · rcases s' x hx with q | rfl
    · exact D.new x q
    · exact .inr e
  · rcases List.mem_append.mp hx with q | q
    · exact ⟨List.mem_append_left _ (D.st x q).1, (D.st x q).2⟩
    · obtain rfl := List.mem_singleton.mp q
      exact ⟨List.mem_append_right _ q, e⟩
  · rcases s' x hx with q | rfl
    · exact List.mem_append_left _ (D.done x q e' (fun c => nl (List.mem_append_left _ c)) nu z hz)
    · exact absurd (List.mem_append_right _ (List.mem_singleton.mpr rfl)) nl
theorem Dfs.end {n : Nat} {ts : List Tie} {ks0 ks la : List Int} {s u : Int} (D : Dfs n ts ks0 s (· = u) ks la) (h : ∀ y, (u, y) ∈ ts ∨ (y, u) ∈ ts → y ∈ ks) : Dfs n ts ks0 s (fun _ => False) ks la :=
  ⟨D.nd, D.sub, D.old, D.new, D.here, D.st, fun x hx e nl _ y hy => by
    by_cases c : x = u
    · subst c; exact h y hy
    · exact D.done x hx e nl c y hy⟩
/-- the parts, by their least seats -/
def rootsOf (ts : List Tie) (n : Nat) : List Int := (up n).filter fun r => kin ts r = r
def partOf (ts : List Tie) (n : Nat) (r : Int) : List Int := (up n).filter fun x => kin ts x = r
def partsOf (n : Nat) (ts : List Tie) : List (List Int) := (rootsOf ts n).map (partOf ts n)
def intsD (ns : List Int) : PySem.PyData := .list (ns.map PySem.PyData.int)
def listsD (ls : List (List Int)) : PySem.PyData := .list (ls.map intsD)
theorem up_succ (n : Nat) : up (n + 1) = up n ++ [(n : Int) + 1] := by
  unfold up
  rw [List.range_succ, List.map_append]
  simp [Int.add_comm]
end Ap


/-! K4: how long a repr gets. -/
namespace Ap
open PySem L2 PySem.Spec
theorem textFrom_up : ∀ (ts : List Str) (k : Nat) (acc : Str), (textFrom k acc ts).length ≤ acc.length + piled ts
  | [], _, acc => Nat.le_refl _
  | t :: r, k, acc => by
    have h := textFrom_up r (k + 1) (acc ++ (if k > 0 then ", " else "" : String) ++ t)
    rw [strLen_append, strLen_append] at h
    have h2 : ((if k > 0 then ", " else "" : String) : Str).length ≤ 2 := by split <;> decide
    have h3 : piled (t :: r) = t.length + 2 + piled r := by simp [piled]
    show (textFrom (k + 1) (acc ++ (if k > 0 then ", " else "" : String) ++ t) r).length ≤ _
    omega
theorem listText_up (ts : List Str) : (listText ts).length ≤ piled ts + 2 := by
  unfold listText
  rw [strLen_append]
  have h := textFrom_up ts 0 "["
  have h1 : (("[" : String) : Str).length = 1 := by decide
  have h2 : (("]" : String) : Str).length = 1 := by decide
  omega
theorem shownAll_map : ∀ xs : List PyData, PyData.shownAll xs = xs.map PyData.shown
  | [] => by simp only [PyData.shownAll, List.map_nil]
  | x :: r => by simp only [PyData.shownAll, List.map_cons, shownAll_map r]
/-- items of at most b signs each -/
theorem list_up {xs : List PyData} {b : Nat} (h : ∀ x ∈ xs, x.shown.length ≤ b) : (PyData.list xs).shown.length ≤ (b + 2) * xs.length + 2 := by
  simp only [PyData.shown, shownAll_map]
  refine Nat.le_trans (listText_up _) (Nat.add_le_add_right ?_ 2)
  induction xs with
  | nil => simp [piled]
  | cons x r ih =>
    have h1 := h x List.mem_cons_self
    have h2 := ih fun y hy => h y (List.mem_cons_of_mem _ hy)
    have h3 : piled ((x :: r).map PyData.shown) = x.shown.length + 2 + piled (r.map PyData.shown) := by simp [piled]
    rw [h3, List.length_cons, Nat.mul_add]
    omega
theorem showAll {xs : List PyData} (h : ∀ x ∈ xs, x.showable = true) : (PyData.list xs).showable = true := by
  simp only [PyData.showable]
  induction xs with
  | nil => simp only [PyData.showableAll]
  | cons x r ih => simp only [PyData.showableAll, h x List.mem_cons_self, ih fun y hy => h y (List.mem_cons_of_mem _ hy), Bool.and_self]
theorem depthAll {xs : List PyData} {b : Nat} (h : ∀ x ∈ xs, x.depth ≤ b) : (PyData.list xs).depth ≤ b + 1 := by
  simp only [PyData.depth]
  induction xs with
  | nil => simp only [PyData.depthAll]; omega
  | cons x r ih =>
    have h1 := h x List.mem_cons_self
    have h2 := ih fun y hy => h y (List.mem_cons_of_mem _ hy)
    simp only [PyData.depthAll]
    omega
/-- can be shown, within b signs, d deep -/
structure Shw (x : PyData) (b d : Nat) : Prop where
  ok : x.showable = true
  len : x.shown.length ≤ b
  dp : x.depth ≤ d
theorem Shw.list {xs : List PyData} {b d n : Nat} (h : ∀ x ∈ xs, Shw x b d) (hn : xs.length ≤ n) : Shw (.list xs) ((b + 2) * n + 2) (d + 1) :=
  ⟨showAll fun x hx => (h x hx).ok, Nat.le_trans (list_up fun x hx => (h x hx).len) (Nat.add_le_add_right (Nat.mul_le_mul_left _ hn) 2), depthAll fun x hx => (h x hx).dp⟩
theorem small_len : ∀ i : Fin 100, ((toString ((i.val : Nat) : Int) : String) : Str).length ≤ 2 := by decide +kernel
theorem Shw.int {i : Int} (h1 : 0 ≤ i) (h2 : i < 100) : Shw (.int i) 2 0 := by
  obtain ⟨k, rfl⟩ : ∃ k : Nat, i = k := ⟨i.toNat, by omega⟩
  refine ⟨?_, ?_, by simp only [PyData.depth]; omega⟩
  · simp only [PyData.showable]
    refine decide_eq_true (Nat.lt_of_le_of_lt (Nat.log2_le_self _) ?_)
    show (k : Int).natAbs < 1920
    omega
  · simp only [PyData.shown]
    exact small_len ⟨k, by omega⟩
theorem Shw.bool (b : Bool) : Shw (.bool b) 5 0 := by
  refine ⟨by simp only [PyData.showable], ?_, by simp only [PyData.depth]; omega⟩
  simp only [PyData.shown]
  cases b <;> decide
theorem Shw.ints {ns : List Int} {n : Nat} (h : ∀ x ∈ ns, 0 ≤ x ∧ x < 100) (hn : ns.length ≤ n) : Shw (intsD ns) (4 * n + 2) 1 :=
  Shw.list (b := 2) (d := 0) (fun x hx => by
    obtain ⟨i, hi, rfl⟩ := List.mem_map.mp hx
    exact Shw.int (h i hi).1 (h i hi).2) (by rw [List.length_map]; exact hn)
theorem Shw.net {n : Nat} {ts : List Tie} (h : NetS (up n) ts) (hn : n ≤ 40) (few : ts.length ≤ 900) : Shw (netD ts) 20000 2 := by
  have := Shw.list (xs := ts.map tieD) (b := 10) (d := 1) (n := 900) (fun x hx => by
    obtain ⟨t, ht, rfl⟩ := List.mem_map.mp hx
    obtain ⟨m1, m2, _⟩ := h.mem t ht
    have b1 := up_mem.mp m1
    have b2 := up_mem.mp m2
    exact Shw.ints (ns := [t.1, t.2]) (n := 2) (fun x hx => by
      simp at hx
      rcases hx with rfl | rfl
      · omega
      · omega) (Nat.le_refl _)) (by rw [List.length_map]; exact few)
  exact ⟨this.ok, Nat.le_trans this.len (by decide), this.dp⟩
theorem Shw.parts {n : Nat} {ts : List Tie} (hn : n ≤ 40) : Shw (listsD (partsOf n ts)) 8000 2 := by
  have sub : ∀ {p : Int → Bool}, ((up n).filter p).length ≤ 40 := fun {p} => Nat.le_trans (List.length_filter_le _ _) (by rw [up_length]; exact hn)
  have := Shw.list (xs := (partsOf n ts).map intsD) (b := 4 * 40 + 2) (d := 1) (n := 40) (fun x hx => by
    obtain ⟨l, hl, rfl⟩ := List.mem_map.mp hx
    obtain ⟨r, _, rfl⟩ := List.mem_map.mp hl
    exact Shw.ints (fun y hy => by
      have := up_mem.mp (List.mem_filter.mp hy).1
      omega) sub) (by rw [List.length_map]; unfold partsOf; rw [List.length_map]; exact sub)
  exact ⟨this.ok, Nat.le_trans this.len (by decide), this.dp⟩
theorem Shw.two {a b : PyData} {n d : Nat} (h1 : Shw a n d) (h2 : Shw b n d) : Shw (.list [a, b]) ((n + 2) * 2 + 2) (d + 1) :=
  Shw.list (fun x hx => by
    simp at hx
    rcases hx with rfl | rfl
    · exact h1
    · exact h2) (Nat.le_refl _)
theorem g_rep {K : PySem.W.Frag} {H : Hp} {Q : VK} {p : Addr} {d : PyData} {b e : Nat} (hd : Dp K H (.ref p) d) (s : Shw d b e) (hb : b ≤ 1000000) (he : e < 60) (h : Q (.str d.shown) H) : rRep K [.ref p] H Q :=
  g_repr hd s.ok (Nat.lt_of_le_of_lt s.dp he) (Nat.le_trans s.len (triv_sz hb)) h
end Ap


/-! K5: more steps: lists put together, turned round; permuted data. -/
namespace Ap
open PySem L2 PySem.Spec PyProof.Rows
section
variable {K : PySem.W.Frag} {σ : L2.St} {H : Hp} {Q : VK} {te : TE}
theorem g_cat {l b : Addr} {xs zs : List V} (e : H l = some (.lst xs)) (e2 : H b = some (.lst zs)) (h : xs.length + zs.length ≤ sizeLine) (k : ∀ p, H p = none → Q (.ref p) (upd H p (.lst (xs ++ zs)))) : rCat (.ref l) (.ref b) H Q := ⟨l, b, xs, zs, rfl, rfl, e, e2, h, k⟩
def kRv (K : PySem.W.Frag) (Q : VK) : VK := fun x H1 => ∃ a xs, x = .ref a ∧ SqL K H1 a xs ∧ ∀ p, H1 p = none → Q (.ref p) (upd H1 p (.lst xs.reverse))
instance i_revL : St (tRevL K te σ H Q) (te σ H (kRv K Q)) := ⟨id⟩
theorem g_kRv {a : Addr} {xs : List V} (e : H a = some (.lst xs)) (h : ∀ p, H p = none → Q (.ref p) (upd H p (.lst xs.reverse))) : kRv K Q (.ref a) H := ⟨a, xs, rfl, SqL.of e, h⟩
end
theorem cut_any {xs : List V} {k : Nat} {i : Int} (e : i = (k : Int)) : cutV xs none (some i) = xs.take k := by
  subst e
  unfold cutV
  rw [HT.sIx_none, HT.sIx_nat, List.drop_zero, Nat.sub_zero]
  by_cases h : k ≤ xs.length
  · rw [Nat.min_eq_left h]
  · rw [Nat.min_eq_right (by omega), List.take_of_length_le (Nat.le_refl _), List.take_of_length_le (by omega)]
/-- data in another order -/
theorem DaAll.perm {α : Type} {f : α → PyData} {P : Addr → Prop} {H : Hp} {ys xs : List V} (p : ys.Perm xs) : ∀ {ts : List α}, DaAll P H xs (ts.map f) → ∃ us : List α, us.Perm ts ∧ DaAll P H ys (us.map f) := by
  induction p with
  | nil =>
    intro ts h
    match ts, h with
    | [], h => exact ⟨[], .nil, h⟩
  | cons x _ ih =>
    intro ts h
    match ts, h with
    | t :: r, .cons h1 h2 =>
      obtain ⟨us, p, h⟩ := ih h2
      exact ⟨t :: us, p.cons t, .cons h1 h⟩
  | swap x y l =>
    intro ts h
    match ts, h with
    | t :: u :: r, .cons h1 (.cons h2 h3) => exact ⟨u :: t :: r, .swap t u r, .cons h2 (.cons h1 h3)⟩
  | trans _ _ ih1 ih2 =>
    intro ts h
    obtain ⟨us, p, h⟩ := ih2 h
    obtain ⟨ws, p2, h⟩ := ih1 h
    exact ⟨ws, p2.trans p, h⟩
theorem Apart.symm {s t : Tie} (h : Apart s t) : Apart t s := ⟨fun z => h.1 ⟨z.1.symm, z.2.symm⟩, fun z => h.2 ⟨z.2.symm, z.1.symm⟩⟩
theorem NetS.perm {S : List Int} {ts us : List Tie} (h : NetS S ts) (p : us.Perm ts) : NetS S us :=
  ⟨fun t ht => h.mem t (p.mem_iff.mp ht), (List.Perm.pairwise_iff (fun {_ _} => Apart.symm) p).mpr h.ap⟩
/-- the same tie, its seats perhaps the other way -/
def Sw (t s : Tie) : Prop := s = t ∨ s = (t.2, t.1)
theorem Sw.apart {a b c d : Tie} (h : Apart a b) (h1 : Sw a c) (h2 : Sw b d) : Apart c d := by
  obtain ⟨p, q⟩ := h
  rcases h1 with rfl | rfl
  · rcases h2 with rfl | rfl
    · exact ⟨p, q⟩
    · exact ⟨q, p⟩
  · rcases h2 with rfl | rfl
    · exact ⟨fun z => q ⟨z.2, z.1⟩, fun z => p ⟨z.2, z.1⟩⟩
    · exact ⟨fun z => p ⟨z.2, z.1⟩, fun z => q ⟨z.2, z.1⟩⟩
theorem NetS.turn {S : List Int} {us ps : List Tie} (h : NetS S us) (l : ps.length = us.length) (r : ∀ (k : Nat) t s, us[k]? = some t → ps[k]? = some s → Sw t s) : NetS S ps := by
  constructor
  · intro s hs
    obtain ⟨k, hk, rfl⟩ := List.getElem_of_mem hs
    have := r k us[k] ps[k] (List.getElem?_eq_getElem (by omega)) (List.getElem?_eq_getElem hk)
    obtain ⟨a, b, c⟩ := h.mem us[k] (List.getElem_mem (by omega))
    rcases this with e | e
    · rw [e]; exact ⟨a, b, c⟩
    · rw [e]; exact ⟨b, a, Ne.symm c⟩
  · refine List.pairwise_iff_getElem.mpr fun i j hi hj lt => ?_
    have ap := List.pairwise_iff_getElem.mp h.ap i j (by omega) (by omega) lt
    exact Sw.apart ap (r i _ _ (List.getElem?_eq_getElem (by omega)) (List.getElem?_eq_getElem hi)) (r j _ _ (List.getElem?_eq_getElem (by omega)) (List.getElem?_eq_getElem hj))
theorem DaAll.take {P : Addr → Prop} {H : Hp} : ∀ (k : Nat) {vs : List V} {ds : List PyData}, DaAll P H vs ds → DaAll P H (vs.take k) (ds.take k)
  | 0, _, _, _ => .nil
  | k + 1, _, _, .nil => .nil
  | k + 1, _, _, .cons h t => .cons h (DaAll.take k t)
end Ap


/-! K6: enumerate from a start, slices with a step, many %= n, keywords the other way round, defaults. -/
namespace Ap
open PySem L2 PySem.Spec PyProof.Rows
/-! ### enumerate(list, k0) -/
def Ites (K : PySem.W.Frag) (k0 : Int) (a : Addr) : It :=
  ⟨fun i H => ∃ (xs : List V) (x : V), SqL K H a xs ∧ xs[i]? = some x, fun i H v H' => ∃ T x, v = .ref T ∧ H T = none ∧ H' = upd H T (.tup [.int (k0 + (i : Nat)), x]) ∧ ∀ xs, SqL K H a xs → xs[i]? = some x, fun i H => ∃ xs : List V, SqL K H a xs ∧ xs.length = i⟩
theorem turn_enumS {P : Program} {w : World} {K : PySem.W.Frag} {elts : List Expr} {kk : Nat} {tpos : Pos} (k0 : Int) (a e it : Addr) :
    Turn P w K (.Tuple elts kk tpos) (Ites K k0 a) [e, it] e (fun i h => (∃ old, IsEnum h e it (k0 + (i : Nat)) old) ∧ h.IsListIter it a i ∧ e ≠ it ∧ a ≠ it ∧ a ≠ e) where
  mem := by simp
  obj := fun i h st b hb => by
    obtain ⟨⟨old, he⟩, ⟨o, ho, hc, hd⟩, _⟩ := st
    have e' : b = e ∨ b = it := by simpa using hb
    rcases e' with z | z
    · rw [z]; exact ⟨_, he, fun v q => nomatch q⟩
    · rw [z]; exact ⟨o, ho, fun v q => by rw [hd] at q; cases q⟩
  keep := fun i h h' st k => let ⟨⟨old, he⟩, hi, hne⟩ := st; ⟨⟨old, k e (by simp) _ he⟩, hi.at fun o q => k it (by simp) o q, hne⟩
  item := by
    intro X hP hw hK hc i pins s σ H E I hf st hg
    subst hP hw hK
    obtain ⟨⟨old, he⟩, hit, hne, hai, hae⟩ := st
    obtain ⟨xs, x, hq, hx⟩ := hg
    obtain ⟨its, rv, p, hz⟩ := I.list hq
    obtain ⟨u, hu, ru⟩ := rv.get hx
    have hel : e < s.heap.objs.size := Heap.lt_size he
    have hil : it < s.heap.objs.size := by obtain ⟨_, q, _⟩ := hit; exact Heap.lt_size q
    have hlt : i < its.toArray.size := by
      rw [List.size_toArray]
      exact (List.getElem?_eq_some_iff.mp hu).1
    have D := Draws.list (prog := X.prog) (w := X.w) (A := X.A.in1) (I.ok.hd hc) it a hai its.toArray
    refine wpAny_pyNext_enum_itemC D he ⟨hit, p.isList⟩ hlt hne (fun z => ?_) fun x' h' tk hP ho hst hT hsz hk => ?_
    · have e' : e = it ∨ e = a := by simpa using z
      exact e'.elim hne (fun z => hae z.symm)
    have hP : its.toArray[i]? = some x' := hP
    have hux : x' = u := by
      rw [List.getElem?_toArray, hu] at hP
      exact (Option.some.inj hP).symm
    subst hux
    refine ⟨_, rfl, wpAny_letOwnedTupleGo_enum (s := { s with heap := h', toks := tk + 1 }) ho fun h'' he' sb => ?_⟩
    have hT2 : h''.get? s.heap.objs.size = some { cls := .type "tuple", data := .seq #[.int (k0 + (i : Nat)) tk, x'] } := (sb.2 _ (Nat.ne_of_gt hel)).trans hT
    have new : ObjOk X.prog X.w (upd H s.heap.objs.size (.tup [.int (k0 + (i : Nat)), x])) h'' s.heap.objs.size (.tup [.int (k0 + (i : Nat)), x]) :=
      ⟨by show 2 ≤ sizeLine; decide, [.int (k0 + (i : Nat)) tk, x'], .cons ⟨_, rfl⟩ (.cons ru .nil), ⟨_, hT2, rfl, _, rfl⟩⟩
    have I1 : Inv X pins σ (upd H s.heap.objs.size (.tup [.int (k0 + (i : Nat)), x])) { s with heap := h'', toks := tk + 1 } :=
      I.turnedNew (ch := [e, it]) (fun b ob hb q => (sb.2 b (fun z => hb (by simp [z]))).trans (hk b ob (fun z => hb (by simp [z])) (fun z => hb (by simp [z])) q)) hf (Nat.le_refl _) new
    refine ⟨.ref s.heap.objs.size, _, I1, rfl, ⟨_, x, rfl, I.hok.fresh (Nat.le_refl _), rfl, fun ys hy => by rw [I.list_inj hy hq]; exact hx⟩, ⟨⟨x', ?_⟩, hst.1.at fun o q => (sb.2 it (Ne.symm hne)).trans q, hne, hai, hae⟩, fun b hb => ?_⟩
    · have e1 : k0 + ((i + 1 : Nat) : Int) = k0 + (i : Nat) + 1 := by omega
      rw [e1]; exact he'
    · have hb' : b < s.heap.objs.size := by
        have e' : b = e ∨ b = it := by simpa using hb
        rcases e' with z | z
        · rw [z]; exact hel
        · rw [z]; exact hil
      rw [upd_ne (Nat.ne_of_lt hb')]
      exact (hf b hb).1
  done := by
    intro X hP hw hK hc i pins s σ H E I hf st hg
    subst hP hw hK
    obtain ⟨⟨old, he⟩, hit, hne, hai, hae⟩ := st
    obtain ⟨xs, hq, hx⟩ := hg
    obtain ⟨its, rv, p, hz⟩ := I.list hq
    obtain ⟨f0, f1, f2, f3, f4, f5⟩ := hf it (by simp)
    have hl := rv.length
    have D := Draws.list (prog := X.prog) (w := X.w) (A := X.A.in1) (I.ok.hd hc) it a hai its.toArray
    have sz : its.toArray.size = i := by rw [List.size_toArray]; omega
    exact wpAny_pyNext_enum_endD D he ⟨by rw [sz]; exact hit, p.isList⟩ fun h' eb => ⟨rfl, I.turned (t' := s.toks) (fun b o hb q => eb b o hb q) f0 f1 f3 f4 f5⟩
  self := fun A i s Q E st h => let ⟨⟨_, he⟩, _⟩ := st; wpAny_pyIter_enum he h
def iEnumS (K : PySem.W.Frag) (ta : TA) : TI := fun σ H R => ta σ H fun vs H1 => ∃ a xs k0, vs = [.ref a, .int k0] ∧ SqL K H1 a xs ∧ -(2 ^ 63) ≤ k0 ∧ k0 < 2 ^ 63 ∧ R (Ites K k0 a) H1
theorem pi_enumS {X : Cx} {e e2 : Expr} {ta : TA} {p pos tpos : Pos} {elts : List Expr} {kk : Nat} (hg : Gl X "enumerate") (hm : X.mg "enumerate" = none) (ha : PA X [e, e2] ta) (hs : starEach (e :: [e2]) X.env = (false, eval e X.env) :: starEach [e2] X.env := by rfl)
    (hpl : (backTo pos (starEach [e2] X.env)).any (·.1) = false := by rfl) :
    PI X (.Tuple elts kk tpos) (.Call (.Name "enumerate" p) [e, e2] [] pos) (iEnumS X.K ta) := by
  refine ⟨fun pins s σ H R I h => ?_⟩
  refine Call_ (ld_blt I hg hm boot_enumerate (PyProof.Rows.callWith_type1 (thn (ha.run pos pins s σ H _ I h) fun us s1 ⟨vs, H1, I1, r1, q1⟩ => ?_) hs hpl))
  obtain ⟨a, xs, k0, ex, hq, b0, b1, q⟩ := q1
  subst ex
  cases r1 with
  | cons r rr =>
    cases rr with
    | cons r2 rr =>
      cases rr
      cases r
      obtain ⟨t, rfl⟩ := r2
      obtain ⟨its, rv, p', hz⟩ := I1.list hq
      have hal : a < s1.heap.objs.size := by obtain ⟨_, z, _⟩ := p'.isList; exact Heap.lt_size z
      refine enum_begins (begins_list a its.toArray) p'.isList b0 b1 fun h' he hit hsz hk => wpAny_pyIter_enum he ?_
      have I2 : Inv X pins σ H1 { s1 with heap := h' } := I1.kept (t' := s1.toks) hk
      refine ⟨s1.heap.objs.size + 1, [s1.heap.objs.size + 1, s1.heap.objs.size], _, _, H1, rfl, I2, turn_enumS k0 a (s1.heap.objs.size + 1) s1.heap.objs.size, ⟨⟨.none, by simpa using he⟩, ⟨_, hit, rfl, rfl⟩, Nat.succ_ne_self _, Nat.ne_of_lt hal, Nat.ne_of_lt (Nat.lt_succ_of_lt hal)⟩, fun b hb => ?_, q⟩
      have e' : b = s1.heap.objs.size + 1 ∨ b = s1.heap.objs.size := by simpa using hb
      have hle : s1.heap.objs.size ≤ b := by
        rcases e' with z | z
        · rw [z]; exact Nat.le_add_right _ _
        · rw [z]; exact Nat.le_refl _
      exact I1.fpOk hle (I1.hok.fresh hle)
section
variable {K : PySem.W.Frag} {a : Addr} {xs : List V} {k0 : Int}
theorem walk_enumS : Walk (Ites K k0 a) xs.length (fun H => SqL K H a xs) (YPair (fun i => some (.int (k0 + (i : Nat)))) (fun i => xs[i]?)) := by
  refine ⟨fun i _ hi q => ⟨xs, xs[i], q, by simp [hi]⟩, fun _ q => ⟨xs, q, rfl⟩, fun i H v H' _ q y => ?_⟩
  obtain ⟨T, x, h1, h2, h3, h4⟩ := y
  exact ⟨T, .int (k0 + (i : Nat)), x, h1, h2, h3, rfl, h4 xs q⟩
end
section
variable {K : PySem.W.Frag} {σ : L2.St} {H : Hp} {ta : TA}
def kIEnS (K : PySem.W.Frag) (R : It → Hp → Prop) : LK := fun vs H1 => ∃ a xs k0, vs = [.ref a, .int k0] ∧ SqL K H1 a xs ∧ -(2 ^ 63) ≤ k0 ∧ k0 < 2 ^ 63 ∧ R (Ites K k0 a) H1
instance i_iEnumS {R : It → Hp → Prop} : St (iEnumS K ta σ H R) (ta σ H (kIEnS K R)) := ⟨id⟩
theorem g_kIEnS {R : It → Hp → Prop} {a : Addr} {xs : List V} {k0 : Int} (e : H a = some (.lst xs)) (b0 : -(2 ^ 63) ≤ k0) (b1 : k0 < 2 ^ 63) (h : R (Ites K k0 a) H) : kIEnS K R [.ref a, .int k0] H := ⟨a, xs, k0, rfl, SqL.of e, b0, b1, h⟩
end
/-! ### a slice with a step -/
/-- every other one -/
def evens {α : Type} : List α → List α
  | [] => []
  | [a] => [a]
  | a :: _ :: r => a :: evens r
theorem evens_map {α β : Type} (f : α → β) : ∀ l : List α, evens (l.map f) = (evens l).map f
  | [] => rfl
  | [_] => rfl
  | _ :: _ :: r => by simp only [List.map_cons, evens, evens_map f r]
theorem evens_perm {α : Type} : ∀ l : List α, (evens l ++ evens (l.drop 1)).Perm l
  | [] => .refl _
  | [a] => .refl _
  | a :: b :: r => by
    have ih := evens_perm r
    show (a :: evens r ++ evens (b :: r)).Perm _
    cases r with
    | nil => exact .refl _
    | cons c r =>
      show (a :: (evens (c :: r) ++ b :: evens r)).Perm _
      refine List.Perm.cons a (List.perm_middle.trans (List.Perm.cons b ?_))
      exact ih
theorem evens_len {α : Type} : ∀ l : List α, (evens l).length ≤ l.length
  | [] => Nat.le_refl _
  | [_] => Nat.le_refl _
  | _ :: _ :: r => by have := evens_len r; simp only [evens, List.length_cons]; omega
end Ap


/-! K7: slices by twos; x %= n; calls with keywords the other way round; defs with a default. -/
namespace Ap
open PySem L2 PySem.Spec PyProof.Rows
theorem evens_pick {α : Type} : ∀ l : List α, (List.range ((l.length + 1) / 2)).filterMap (fun j => l[2 * j]?) = evens l
  | [] => by simp [evens]
  | [a] => by simp [evens, List.range_succ]
  | a :: b :: r => by
    have e : ((a :: b :: r).length + 1) / 2 = (r.length + 1) / 2 + 1 := by simp only [List.length_cons]; omega
    rw [e, List.range_succ_eq_map, List.filterMap_cons, List.filterMap_map]
    show a :: _ = a :: _
    congr 1
    rw [← evens_pick r]
    refine congrArg (fun f => List.filterMap f _) (funext fun j => ?_)
    show (a :: b :: r)[2 * (j + 1)]? = _
    rw [show 2 * (j + 1) = 2 * j + 2 by omega]
    rfl
def loN (l : Option Int) (k : Nat) : Prop := (l = none ∧ k = 0) ∨ l = some (k : Int)
theorem pick2 {items : Array Value} {l : Option Int} {k : Nat} (h : loN l k) (hk : k ≤ items.size) : slicePick items l none (some 2) = (evens (items.toList.drop k)).toArray := by
  have b : sliceBounds l none (some 2) items.size = ((k : Int), (items.size : Int), 2) := by
    rcases h with ⟨rfl, rfl⟩ | rfl
    · rfl
    · unfold sliceBounds
      have h2 : (2 : Int) > 0 := by decide
      simp only [Option.getD_some, h2, if_true]
      rw [if_neg (by omega)]
      congr 1
      omega
  unfold slicePick
  rw [b]
  show ((sliceRange (k : Int) items.size 2).filterMap (items[·]?)).toArray = _
  congr 1
  rw [← evens_pick]
  unfold sliceRange
  have h2 : (2 : Int) > 0 := by decide
  simp only [h2, if_true]
  rw [List.filterMap_map, List.length_drop, Array.length_toList]
  have e : (if (k : Int) < items.size then ((items.size : Int) - k + 2 - 1) / 2 else 0).toNat = (items.size - k + 1) / 2 := by
    split <;> omega
  rw [e]
  refine congrArg (fun f => List.filterMap f _) (funext fun j => ?_)
  show items[((k : Int) + 2 * (j : Int)).toNat]? = _
  rw [List.getElem?_drop, Array.getElem?_toList, show ((k : Int) + 2 * (j : Int)).toNat = k + 2 * j by omega]
theorem vals_evens : ∀ {vs : List V} {us : List Value}, Vals vs us → Vals (evens vs) (evens us)
  | _, _, .nil => .nil
  | _, _, .cons r .nil => .cons r .nil
  | _, _, .cons r (.cons _ t) => .cons r (vals_evens t)
theorem vals_drop1 {vs : List V} {us : List Value} (h : Vals vs us) (k : Nat) : Vals (vs.drop k) (us.drop k) := h.drop k
/-- xs[lo::2] -/
def tStep2 (K : PySem.W.Frag) (te : TE) (tl : TO) : TE := fun σ H Q => te σ H fun x H1 => tl σ H1 fun l H2 => ∃ a xs k, x = .ref a ∧ loN l k ∧ SqL K H2 a xs ∧ k ≤ xs.length ∧ ∀ p, H2 p = none → Q (.ref p) (upd H2 p (.lst (evens (xs.drop k))))
theorem pe_step2 {X : Cx} {e : Expr} {te : TE} {tl : TO} {lo : Option Expr} {k : Nat} {p1 p3 pos : Pos} (he : PE X e te) (hl : PO X lo tl)
    (hops : ∀ (x y : Value), ∃ ops, subscripted (.Slice lo none (some (.Constant (.int 2) k p1)) p3) false x y = operate ops (getItem x y) := by exact fun _ _ => ⟨_, rfl⟩) (hst0 : ∀ (x : Value) (s : Value), letTemporaryGo e x s = pure () := by intro _ _; rfl) : PE X (.Subscript e (.Slice lo none (some (.Constant (.int 2) k p1)) p3) pos) (tStep2 X.K te tl) := by
  refine ⟨fun pins s σ H Q I h => ?_⟩
  refine Subscript_ (thn (he.run pins s σ H _ I h) fun v s1 ⟨x, H1, I1, r1, q1⟩ => ?_)
  have hst : PO X (some (.Constant (.int 2) k p1)) (tPart (tC (.int 2))) := po_some pe_int
  refine wpAny_Slice (thn (hl.run pins s1 σ H1 _ I1 q1) fun vl s2 ⟨l, H2, I2, pl, q2⟩ => ?_)
  obtain ⟨a, xs, kk, ex, hk, hx, hkl, q⟩ := q2
  subst ex
  cases r1
  refine thn (po_none.run pins s2 σ H2 (fun o H3 => o = none ∧ H3 = H2) I2 ⟨rfl, rfl⟩) fun vu s3 ⟨u, H3, I3, pu, eu, e3⟩ => ?_
  subst eu e3
  refine thn (hst.run pins s3 σ H3 (fun o H4 => o = some 2 ∧ H4 = H3) I3 ⟨2, rfl, rfl, rfl⟩) fun vs s4 ⟨o, H4, I4, ps, eo, e4⟩ => ?_
  subst eo e4
  have I5 : Inv X pins σ H4 { s4 with heap := s4.heap.push { cls := .type "slice", data := .fields #[vl, vu, vs] } } := I4.kept (t' := s4.toks) fun b ob q => Heap.get?_push_of_some _ q
  obtain ⟨its, r, ht, hz⟩ := I5.list hx
  have hlen := r.length
  show wpAny (model X.prog X.w) X.A (subscriptTail e (.Slice lo none (some (.Constant (.int 2) k p1)) p3) (.ref a) (.ref s4.heap.objs.size)) (EP X pins σ Q) X.xe { s4 with heap := s4.heap.push { cls := .type "slice", data := .fields #[vl, vu, vs] } }
  obtain ⟨ops, hops⟩ := hops (.ref a) (.ref s4.heap.objs.size)
  refine tail_any (ops := ops) ht.isList.typeIs (PySem.slot_list_getitem.lookup) ?_ hops
  refine wpAny_getItem_list_slice ht.isList (Heap.IsSliceOf.new _ vl vu vs) pl pu ps (by decide) ?_ (by rw [List.size_toArray]; omega)
  rw [pick2 hk (by rw [List.size_toArray]; omega)]
  have le : (evens (xs.drop kk)).length ≤ xs.length := Nat.le_trans (evens_len _) (by rw [List.length_drop]; omega)
  refine ⟨.ref _, _, I5.laid (t' := s4.toks) (o := .lst (evens (xs.drop kk))) (fun b ob q => Heap.get?_push_of_some _ q) (Nat.le_refl _) ?_, rfl, q _ (I5.hok.fresh (Nat.le_refl _))⟩
  exact ⟨by omega, _, 0, vals_evens (r.drop kk), Heap.get?_push_size _ rfl⟩
section
variable {K : PySem.W.Frag} {σ : L2.St} {H : Hp} {te : TE} {tl : TO} {Q : VK} {x : V} {l : Option Int}
def kS21 (K : PySem.W.Frag) (tl : TO) (σ : L2.St) (Q : VK) : VK := fun x H1 => tl σ H1 fun l H2 => ∃ a xs k, x = .ref a ∧ loN l k ∧ SqL K H2 a xs ∧ k ≤ xs.length ∧ ∀ p, H2 p = none → Q (.ref p) (upd H2 p (.lst (evens (xs.drop k))))
def kS22 (K : PySem.W.Frag) (x : V) (Q : VK) : OK := fun l H2 => ∃ a xs k, x = .ref a ∧ loN l k ∧ SqL K H2 a xs ∧ k ≤ xs.length ∧ ∀ p, H2 p = none → Q (.ref p) (upd H2 p (.lst (evens (xs.drop k))))
instance i_step2 : St (tStep2 K te tl σ H Q) (te σ H (kS21 K tl σ Q)) := ⟨id⟩
instance i_kS21 : St (kS21 K tl σ Q x H) (tl σ H (kS22 K x Q)) := ⟨id⟩
theorem g_kS22 {a : Addr} {xs : List V} (k : Nat) (hk : loN l k) (e : H a = some (.lst xs)) (hl : k ≤ xs.length) (h : ∀ p, H p = none → Q (.ref p) (upd H p (.lst (evens (xs.drop k))))) : kS22 K (.ref a) Q l H := ⟨a, xs, k, rfl, hk, SqL.of e, hl, h⟩
end
/-! ### x %= n -/
def ipM : TIp := fun x y H Q => ∃ i j, x = .int i ∧ y = .int j ∧ 0 < j ∧ Q (.int (i % j)) H
theorem ip_mod {X : Cx} : PIp X .Mod ipM := by
  intro pins s σ H x y v u Q I r1 r2 h
  obtain ⟨i, j, e1, e2, j0, q⟩ := h
  subst e1; subst e2
  obtain ⟨t, rfl⟩ := r1
  obtain ⟨t', rfl⟩ := r2
  refine PyProof.Rows.imod_int (by omega) ⟨.int _, H, I.tok _, ⟨_, rfl⟩, ?_⟩
  rw [Int.fmod_eq_emod_of_nonneg _ (by omega)]
  exact q
/-! ### keywords, the parameters the other way round -/
def rvA {α : Type} : List α → List α → List α := fun us ws => match us with
  | [] => ws.reverse
  | _ => []
theorem vals_rev {vs : List V} {us : List Value} (h : Vals vs us) : Vals vs.reverse us.reverse := h.reverse
theorem kb_rev {K : PySem.W.Frag} {x qual : Str} {st : Stmt} {f : Addr} {fd : FuncData} {ps : List Str} (F : Fun K x qual st f fd) (h0 : 0 < ps.length)
    (h : ∀ (kV doc pm : Value) (an : Option Addr) (cdv ct : Value) (ws : List Value), ws.length = ps.length → bindArgs (PySem.W.fnOf x qual (defArgs st) (defBody st) (defScope st) .none kV doc pm an cdv ct) ⟨[], ps.reverse.zip ws⟩ = pure (ps.zip ws.reverse)) : KBinds K fd ps ps.reverse rvA rvA := by
  obtain ⟨oc, od, kV, doc, pm, an, cdv, ct, osl, rfl, lk, hcd⟩ := F.ex
  refine ⟨fun s us ws _ hl => ?_, fun {vs us zs ws} r1 r2 => ?_⟩
  · match us, hl with
    | [], hl =>
      have hl : ws.length = ps.length := by simpa [rvA] using hl
      exact .of_eq (h _ _ _ _ _ _ ws hl)
    | _ :: _, hl => exact absurd hl (by simp [rvA]; omega)
  · cases r1 with
    | cons _ _ => exact .nil
    | nil => exact r2.reverse
/-- the same of a def with defaults: all is told -/
theorem kb_revD {K : PySem.W.Frag} {x qual : Str} {st : Stmt} {f : Addr} {fd : FuncData} {ps : List Str} {dvs : List V} (F : FunD K x qual (defArgs st) (defBody st) (defScope st) dvs [] f fd) (hd : dvs ≠ []) (h0 : 0 < ps.length)
    (h : ∀ (T : Addr) (kV doc pm : Value) (an : Option Addr) (cdv ct : Value) (ws its : List Value), ws.length = ps.length → its.length = dvs.length →
      ∃ k, bindArgs (PySem.W.fnOf x qual (defArgs st) (defBody st) (defScope st) (.ref T) kV doc pm an cdv ct) ⟨[], ps.reverse.zip ws⟩ = seqItems? (.ref T) >>= k ∧ k (some its.toArray) = pure (ps.zip ws.reverse)) : KBinds K fd ps ps.reverse rvA rvA := by
  obtain ⟨oc, od, dV, kV, doc, pm, an, cdv, ct, osl, rfl, lk, hcd, hD, hK⟩ := F.ex
  rcases hD with ⟨e, _⟩ | ⟨_, T, o, its, m, rfl, lT, oT, rT⟩
  · exact absurd e hd
  refine ⟨fun s us ws X hl => ?_, fun {vs us zs ws} r1 r2 => ?_⟩
  · match us, hl with
    | [], hl =>
      have hl : ws.length = ps.length := by simpa [rvA] using hl
      obtain ⟨k, e1, e2⟩ := h T kV doc pm an cdv ct ws its hl rT.length.symm
      refine BindsTo.of_looks fun M => ?_
      rw [e1]
      exact looks_items X lT oT (.of_pure e2)
    | _ :: _, hl => exact absurd hl (by simp [rvA]; omega)
  · cases r1 with
    | cons _ _ => exact .nil
    | nil => exact r2.reverse
/-! ### a def with defaults, by its body -/
section
variable {P : Program} {w : World} {K : PySem.W.Frag} {mg : Str → Option Value} {base : Heap} {CX : CXT} {k : Nat} {f : Addr} {fd : FuncData} {ps : List Str} {sp : Sp}
theorem fnD_of0 {x qual : Str} {st : Stmt} {N : List Str} {dvs : List V} (F : FunD K x qual (defArgs st) (defBody st) (defScope st) dvs [] f fd) (S : FnScope N ps (defScope st)) (len : ∀ vs H Q E, sp vs H Q E → vs.length = ps.length)
    (body : ∀ (cdv : Value) (B : Around) (outs : List Env) (s : Shared) (H : Hp) (vs : List V) (Q : VK) (E : XK), fd.code = cdv → Room k (B.deeper (envOfC qual (defScope st) s.heap.objs.size f cdv)) → B.guards = some [] → sp vs H Q E →
      ∃ t, PSs (cxOf CX0 P w K mg base N qual (defScope st) f cdv B outs s H E).nox (defBody st) t ∧ t ⟨fun _ H' => Q .non H', Q, fun _ _ => False, fun _ _ => False⟩ (start N vs) H) :
    FnG P w K mg base CX0 (k + 1) f fd ps sp := by
  obtain ⟨oc, od, dV, kV, doc, pm, an, cdv, ct, osl, rfl, lk, hcd, _, _⟩ := F.ex
  refine ⟨len, fun B outs s H args us vs Q E hr hg e0 hb rv hsp => ?_⟩
  have ln := len vs H Q E hsp
  have kin : K.In s.heap := e0.mod.kin.keeps fun b o e => (e0.bs b o e).1
  refine codeAny_call_function hr.depth (kin f _ lk) rfl S.co S.gen rfl (PySem.W.codeRec_of kin hcd) (hb _ _ _ _ ?_)
  refine wpAny_newFunctionEnv_cells S.kind (fun y hy => ?_) fun env he s1 inc => ?_
  · rcases S.par y.1 (List.of_mem_zip (show (y.1, y.2) ∈ ps.zip us from hy)).1 with q | q
    · exact .inl q
    · exact .inr ⟨q, PySem.W.cellsFrom_some _ _ _ (.inl q)⟩
  · subst he
    refine ⟨(e0.mod.nolimit.keeps fun b o e => (e0.bs b o e).1).keeps inc.toInCall.keep, codeAny_func ?_⟩
    obtain ⟨t, ht, hq⟩ := body cdv B outs s H vs Q E rfl (hr.deeper _) hg hsp
    have ht := ht.nox
    have I0 := inv_start (CX := CX0) (E := E) (K := K) (cd := cdv) (f := f) S hr.hd e0 ln rv inc
    refine wpAny_mono (ht.run [] s1 (start N vs) H _ I0 hq) (fun fl s2 hs => ?_) fun _ _ hs => hs
    cases fl with
    | ret u =>
      obtain ⟨v, σ', H', J, r', q⟩ := hs
      exact ⟨v, H', J.os, J.bare, J.base, J.hok, r', q⟩
    | next =>
      obtain ⟨σ', H', J, q⟩ := hs
      exact ⟨.non, H', J.os, J.bare, J.base, J.hok, rfl, q⟩
    | brk =>
      obtain ⟨_, _, _, z⟩ := hs
      exact z.elim
    | cont =>
      obtain ⟨_, _, _, z⟩ := hs
      exact z.elim
theorem fnDK_of0 {x qual : Str} {st : Stmt} {N : List Str} {dvs : List V} (F : FunD K x qual (defArgs st) (defBody st) (defScope st) dvs [] f fd) (S : FnScope N ps (defScope st)) (len : ∀ vs H Q E, sp vs H Q E → vs.length = ps.length)
    (body : ∀ (cdv : Value) (B : Around) (outs : List Env) (s : Shared) (H : Hp) (vs : List V) (Q : VK) (E : XK), fd.code = cdv → Room k (B.deeper (envOfC qual (defScope st) s.heap.objs.size f cdv)) → sp vs H Q E →
      ∃ t, PSs (cxOf CX0 P w K mg base N qual (defScope st) f cdv B outs s H E).nox (defBody st) t ∧ t ⟨fun _ H' => Q .non H', Q, fun _ _ => False, fun _ _ => False⟩ (start N vs) H) :
    FnOk P w K mg base CX0 (k + 1) f fd ps sp := by
  obtain ⟨oc, od, dV, kV, doc, pm, an, cdv, ct, osl, rfl, lk, hcd, _, _⟩ := F.ex
  refine ⟨len, fun B outs s H args us vs Q E hr e0 hb rv hsp => ?_⟩
  have ln := len vs H Q E hsp
  have kin : K.In s.heap := e0.mod.kin.keeps fun b o e => (e0.bs b o e).1
  refine codeAny_call_function hr.depth (kin f _ lk) rfl S.co S.gen rfl (PySem.W.codeRec_of kin hcd) (hb _ _ _ _ ?_)
  refine wpAny_newFunctionEnv_cells S.kind (fun y hy => ?_) fun env he s1 inc => ?_
  · rcases S.par y.1 (List.of_mem_zip (show (y.1, y.2) ∈ ps.zip us from hy)).1 with q | q
    · exact .inl q
    · exact .inr ⟨q, PySem.W.cellsFrom_some _ _ _ (.inl q)⟩
  · subst he
    refine ⟨(e0.mod.nolimit.keeps fun b o e => (e0.bs b o e).1).keeps inc.toInCall.keep, codeAny_func ?_⟩
    obtain ⟨t, ht, hq⟩ := body cdv B outs s H vs Q E rfl (hr.deeper _) hsp
    have ht := ht.nox
    have I0 := inv_start (CX := CX0) (E := E) (K := K) (cd := cdv) (f := f) S hr.hd e0 ln rv inc
    refine wpAny_mono (ht.run [] s1 (start N vs) H _ I0 hq) (fun fl s2 hs => ?_) fun _ _ hs => hs
    cases fl with
    | ret u =>
      obtain ⟨v, σ', H', J, r', q⟩ := hs
      exact ⟨v, H', J.os, J.bare, J.base, J.hok, r', q⟩
    | next =>
      obtain ⟨σ', H', J, q⟩ := hs
      exact ⟨.non, H', J.os, J.bare, J.base, J.hok, rfl, q⟩
    | brk =>
      obtain ⟨_, _, _, z⟩ := hs
      exact z.elim
    | cont =>
      obtain ⟨_, _, _, z⟩ := hs
      exact z.elim
end
end Ap


/-! P0: calls and rounds, plainly. -/
namespace Ap
def sw (a b x : Int) : Int := if x = a then b else if x = b then a else x
theorem sw_l (a b : Int) : sw a b a = b := if_pos rfl
theorem sw_r (a b : Int) : sw a b b = a := by
  unfold sw
  split
  · rename_i h; exact h
  · rw [if_pos rfl]
theorem sw_o {a b x : Int} (h : x ≠ a) (h' : x ≠ b) : sw a b x = x := by
  unfold sw
  rw [if_neg h, if_neg h']
theorem sw_sw (a b x : Int) : sw a b (sw a b x) = x := by
  by_cases h : x = a
  · subst h; rw [sw_l, sw_r]
  · by_cases h' : x = b
    · subst h'; rw [sw_r, sw_l]
    · rw [sw_o h h', sw_o h h']
theorem sw_inj {a b x y : Int} (h : sw a b x = sw a b y) : x = y := by rw [← sw_sw a b x, h, sw_sw]
theorem sw_mem {a b x : Int} {S : List Int} (ha : a ∈ S) (hb : b ∈ S) : sw a b x ∈ S ↔ x ∈ S := by
  by_cases h : x = a
  · subst h; rw [sw_l]; exact ⟨fun _ => ha, fun _ => hb⟩
  · by_cases h' : x = b
    · subst h'; rw [sw_r]; exact ⟨fun _ => hb, fun _ => ha⟩
    · rw [sw_o h h']
/-- the seat of a person, from 1 on -/
def seat (row : List Int) (p : Int) : Int := (row.idxOf p : Int) + 1
theorem idxOf_map {f : Int → Int} (hf : ∀ x, f (f x) = x) : ∀ (row : List Int) (p : Int), (row.map f).idxOf p = row.idxOf (f p)
  | [], p => rfl
  | x :: r, p => by
    rw [List.map_cons, List.idxOf_cons, List.idxOf_cons, idxOf_map hf r p]
    have e : (f x == p) = (x == f p) := by
      rw [Bool.eq_iff_iff, beq_iff_eq, beq_iff_eq]
      exact ⟨fun z => by rw [← z, hf], fun z => by rw [z, hf]⟩
    rw [e]
theorem seat_map (row : List Int) (a b p : Int) : seat (row.map (sw a b)) p = seat row (sw a b p) := by
  unfold seat
  rw [idxOf_map (sw_sw a b)]
/-- the one next round the clock -/
def nx (n c : Int) : Int := c % n + 1
theorem nx_mem {n : Nat} {c : Int} (h : 1 ≤ n) : nx n c ∈ up n := up_mem.mpr (by
  unfold nx
  have := Int.emod_nonneg c (b := n) (by omega)
  have := Int.emod_lt_of_pos c (b := n) (by omega)
  omega)
theorem nx_eq {n : Nat} {c : Int} (h : c ∈ up n) : nx n c = if c = n then 1 else c + 1 := by
  have := up_mem.mp h
  unfold nx
  split
  · rename_i e; subst e; rw [Int.emod_self]; rfl
  · rw [Int.emod_eq_of_lt (by omega) (by omega)]
theorem nx_ne {n : Nat} {c : Int} (h : c ∈ up n) (hn : 2 ≤ n) : nx n c ≠ c := by
  have := up_mem.mp h
  rw [nx_eq h]
  split <;> omega
def Tied (ts : List Tie) (x y : Int) : Prop := (x, y) ∈ ts ∨ (y, x) ∈ ts
instance (ts : List Tie) (x y : Int) : Decidable (Tied ts x y) := inferInstanceAs (Decidable (_ ∨ _))
theorem Tied.symm {ts : List Tie} {x y : Int} (h : Tied ts x y) : Tied ts y x := Or.symm h
def step (ts : List Tie) (n : Int) (row : List Int) (c : Int) : List Int := if Tied ts (seat row c) (seat row (nx n c)) then row else row.map (sw c (nx n c))
def moved (ts : List Tie) (n : Int) (row cs : List Int) : List Int := cs.foldl (step ts n) row
/-- how many people changed seats -/
def chg (ts : List Tie) (n : Int) : List Int → List Int → Nat
  | _, [] => 0
  | row, c :: cs => (if Tied ts (seat row c) (seat row (nx n c)) then 0 else 1) + chg ts n (step ts n row c) cs
theorem moved_snoc (ts : List Tie) (n : Int) (row cs : List Int) (c : Int) : moved ts n row (cs ++ [c]) = step ts n (moved ts n row cs) c := by
  unfold moved
  rw [List.foldl_append]; rfl
theorem moved_app (ts : List Tie) (n : Int) (row cs ds : List Int) : moved ts n row (cs ++ ds) = moved ts n (moved ts n row cs) ds := by
  unfold moved
  rw [List.foldl_append]
theorem chg_snoc (ts : List Tie) (n : Int) (c : Int) : ∀ (cs row : List Int), chg ts n row (cs ++ [c]) = chg ts n row cs + (if Tied ts (seat (moved ts n row cs) c) (seat (moved ts n row cs) (nx n c)) then 0 else 1)
  | [], row => by
    show _ + 0 = 0 + _
    rw [Nat.zero_add]; rfl
  | d :: cs, row => by
    show _ + chg ts n (step ts n row d) (cs ++ [c]) = _ + chg ts n (step ts n row d) cs + _
    rw [chg_snoc ts n c cs, Nat.add_assoc]
    rfl
theorem chg_le (ts : List Tie) (n : Int) : ∀ (cs row : List Int), chg ts n row cs ≤ cs.length
  | [], row => Nat.le_refl _
  | d :: cs, row => by
    have := chg_le ts n cs (step ts n row d)
    show _ + _ ≤ cs.length + 1
    split <;> omega
/-- a standing: all people, each once -/
def Stand (n : Nat) (row : List Int) : Prop := row.Perm (up n)
theorem Stand.length {n : Nat} {row : List Int} (h : Stand n row) : row.length = n := h.length_eq.trans (up_length n)
theorem Stand.nodup {n : Nat} {row : List Int} (h : Stand n row) : row.Nodup := h.nodup_iff.mpr (up_nodup n)
theorem Stand.mem {n : Nat} {row : List Int} (h : Stand n row) {x : Int} : x ∈ row ↔ x ∈ up n := h.mem_iff
theorem Stand.rev {n : Nat} {row : List Int} (h : Stand n row) : Stand n row.reverse := (List.reverse_perm row).trans h
theorem nodup_map_inj {f : Int → Int} (hf : ∀ x y, f x = f y → x = y) : ∀ {l : List Int}, l.Nodup → (l.map f).Nodup
  | [], _ => List.nodup_nil
  | a :: r, h => by
    obtain ⟨h1, h2⟩ := List.nodup_cons.mp h
    refine List.nodup_cons.mpr ⟨fun z => ?_, nodup_map_inj hf h2⟩
    obtain ⟨y, hy, e⟩ := List.mem_map.mp z
    exact h1 (hf _ _ e ▸ hy)
theorem stand_map {n : Nat} {row : List Int} (h : Stand n row) {a b : Int} (ha : a ∈ up n) (hb : b ∈ up n) : Stand n (row.map (sw a b)) := by
  refine (List.perm_ext_iff_of_nodup (nodup_map_inj (fun x y => sw_inj) h.nodup) (up_nodup n)).mpr fun x => ?_
  constructor
  · intro z
    obtain ⟨y, hy, rfl⟩ := List.mem_map.mp z
    exact (sw_mem ha hb).mpr (h.mem.mp hy)
  · intro z
    exact List.mem_map.mpr ⟨sw a b x, h.mem.mpr ((sw_mem ha hb).mpr z), sw_sw a b x⟩
theorem step_stand {ts : List Tie} {n : Nat} {row : List Int} {c : Int} (h : Stand n row) (hc : c ∈ up n) : Stand n (step ts n row c) := by
  unfold step
  split
  · exact h
  · exact stand_map h hc (nx_mem (by have := up_mem.mp hc; omega))
theorem moved_stand {ts : List Tie} {n : Nat} : ∀ {cs row : List Int}, Stand n row → (∀ c ∈ cs, c ∈ up n) → Stand n (moved ts n row cs)
  | [], row, h, _ => h
  | c :: cs, row, h, hc => moved_stand (cs := cs) (step_stand h (hc c List.mem_cons_self)) fun d hd => hc d (List.mem_cons_of_mem _ hd)
/-- a call made twice does nothing -/
theorem step_step (ts : List Tie) (n : Int) (row : List Int) (c : Int) : step ts n (step ts n row c) c = row := by
  unfold step
  by_cases h : Tied ts (seat row c) (seat row (nx n c))
  · rw [if_pos h, if_pos h]
  · rw [if_neg h]
    rw [if_neg (fun z => h ?_), List.map_map, show (sw c (nx n c) ∘ sw c (nx n c)) = id from funext fun x => sw_sw _ _ x, List.map_id]
    rw [seat_map, seat_map, sw_l, sw_r] at z
    exact z.symm
theorem moved_back (ts : List Tie) (n : Int) : ∀ (cs row : List Int), moved ts n (moved ts n row cs) cs.reverse = row
  | [], row => rfl
  | c :: cs, row => by
    rw [List.reverse_cons, moved_snoc]
    show step ts n (moved ts n (moved ts n (step ts n row c) cs) cs.reverse) c = row
    rw [moved_back ts n cs, step_step]
theorem moved_back' (ts : List Tie) (n : Int) (cs row : List Int) : moved ts n (moved ts n row cs.reverse) cs = row := by
  have := moved_back ts n cs.reverse row
  rwa [List.reverse_reverse] at this
/-! ### again and again -/
def it {α : Type} (f : α → α) : Nat → α → α
  | 0, x => x
  | k + 1, x => it f k (f x)
section
variable {α : Type} {f g : α → α}
theorem it_succ (f : α → α) : ∀ (k : Nat) (x : α), it f (k + 1) x = f (it f k x)
  | 0, x => rfl
  | k + 1, x => it_succ f k (f x)
theorem it_add (f : α → α) : ∀ (a b : Nat) (x : α), it f (a + b) x = it f b (it f a x)
  | 0, b, x => by rw [Nat.zero_add]; rfl
  | a + 1, b, x => by
    rw [show a + 1 + b = (a + b) + 1 by omega]
    exact it_add f a b (f x)
theorem it_inv (h : ∀ x, g (f x) = x) : ∀ (k : Nat) (x : α), it g k (it f k x) = x
  | 0, x => rfl
  | k + 1, x => by
    rw [it_succ f]
    show it g k (g (f (it f k x))) = x
    rw [h, it_inv h k]
/-- T is the least number of turns that lead back to x -/
structure Per (f : α → α) (x : α) (T : Nat) : Prop where
  pos : 0 < T
  back : it f T x = x
  least : ∀ k, 0 < k → k < T → it f k x ≠ x
theorem Per.of : ∀ {T : Nat} {x : α}, 0 < T → it f T x = x → ∃ S, S ≤ T ∧ Per f x S
  | T, x, h, e => by
    by_cases z : ∃ k, 0 < k ∧ k < T ∧ it f k x = x
    · obtain ⟨k, k0, kT, ek⟩ := z
      obtain ⟨S, hS, p⟩ := Per.of k0 ek
      exact ⟨S, by omega, p⟩
    · exact ⟨T, Nat.le_refl _, h, e, fun k k0 kT ek => z ⟨k, k0, kT, ek⟩⟩
termination_by T => T
theorem it_mul {T : Nat} {x : α} (e : it f T x = x) : ∀ k : Nat, it f (T * k) x = x
  | 0 => rfl
  | k + 1 => by rw [Nat.mul_succ, it_add, it_mul e k, e]
theorem it_mod {T : Nat} {x : α} (e : it f T x = x) (k : Nat) : it f k x = it f (k % T) x := by
  conv => lhs; rw [← Nat.div_add_mod k T]
  rw [it_add, it_mul e]
theorem Per.dvd {x : α} {T : Nat} (p : Per f x T) {k : Nat} : it f k x = x ↔ k % T = 0 := by
  rw [it_mod p.back]
  constructor
  · intro h
    by_cases z : k % T = 0
    · exact z
    · exact absurd h (p.least _ (by omega) (Nat.mod_lt _ p.pos))
  · intro h
    rw [h]; rfl
theorem Per.inj {x : α} {T : Nat} (hi : ∀ a b, f a = f b → a = b) (p : Per f x T) {i j : Nat} (hi' : i < T) (hj : j < T) (h : it f i x = it f j x) : i = j := by
  have key : ∀ a b, a < b → b < T → it f a x = it f b x → False := fun a b hab hb e => by
    have inj : ∀ (k : Nat) (u v : α), it f k u = it f k v → u = v := fun k => by
      induction k with
      | zero => exact fun u v h => h
      | succ k ih => exact fun u v h => hi _ _ (ih _ _ h)
    have e2 : it f a x = it f a (it f (b - a) x) := by
      rw [← it_add, show b - a + a = b by omega]; exact e
    exact p.least (b - a) (by omega) (by omega) (inj a _ _ e2).symm
  rcases Nat.lt_trichotomy i j with h1 | h1 | h1
  · exact (key i j h1 hj h).elim
  · exact h1
  · exact (key j i h1 hi' h.symm).elim
/-- f forwards, g backwards -/
def rz (f g : α → α) (m : Int) (x : α) : α := if 0 ≤ m then it f m.toNat x else it g (-m).toNat x
theorem rz_mod (h : ∀ x, g (f x) = x) {T : Nat} {x : α} (T0 : 0 < T) (e : it f T x = x) (m : Int) : rz f g m x = it f (m % T).toNat x := by
  unfold rz
  have T0' : (0 : Int) < T := by omega
  have b0 := Int.emod_nonneg m (b := T) (by omega)
  have b1 := Int.emod_lt_of_pos m T0'
  split
  · rename_i m0
    rw [it_mod e]
    congr 1
    have : ((m.toNat % T : Nat) : Int) = m % T := by rw [Int.natCast_emod, Int.toNat_of_nonneg m0]
    omega
  · rename_i m0
    -- m = - k, r the rest: k + r is a multiple of T
    generalize hr : (m % T).toNat = r
    have er : m % T = r := by omega
    generalize hk : (-m).toNat = k
    have ek : m = -(k : Int) := by omega
    have d := Int.emod_add_mul_ediv m T
    have key : it f (r + k) x = x := by
      have : ∃ q : Nat, r + k = T * q := by
        refine ⟨(-(m / T)).toNat, ?_⟩
        have q0 : m / T ≤ 0 := by
          by_cases z : m / T ≤ 0
          · exact z
          · have : (T : Int) * 1 ≤ T * (m / T) := Int.mul_le_mul_of_nonneg_left (by omega) (by omega)
            omega
        have e2 : ((T * (-(m / T)).toNat : Nat) : Int) = -(T * (m / T)) := by
          rw [Int.natCast_mul, Int.toNat_of_nonneg (by omega), Int.mul_neg]
        omega
      obtain ⟨q, e3⟩ := this
      rw [e3, it_mul e]
    rw [it_add] at key
    rw [← key, it_inv h k]
    have e4 : it f k (it f r x) = x := key
    rw [e4]
end
/-! ### there is a way back -/
theorem nodup_le' {α : Type} [DecidableEq α] : ∀ {l D : List α}, l.Nodup → (∀ x ∈ l, x ∈ D) → l.length ≤ D.length
  | [], D, _, _ => Nat.zero_le _
  | a :: r, D, h, m => by
    obtain ⟨h1, h2⟩ := List.nodup_cons.mp h
    have ha := m a List.mem_cons_self
    have := nodup_le' (l := r) (D := D.erase a) h2 fun x hx => (List.mem_erase_of_ne (fun z => h1 (by rw [← z]; exact hx))).mpr (m x (List.mem_cons_of_mem _ hx))
    have e := List.length_erase_of_mem ha
    have : 0 < D.length := List.length_pos_of_mem ha
    rw [List.length_cons]
    omega
def words (S : List Int) : Nat → List (List Int)
  | 0 => [[]]
  | k + 1 => S.flatMap fun a => (words S k).map (a :: ·)
theorem words_mem {S : List Int} : ∀ {k : Nat} {l : List Int}, l.length = k → (∀ x ∈ l, x ∈ S) → l ∈ words S k
  | 0, [], _, _ => List.mem_singleton.mpr rfl
  | k + 1, a :: l, h, m => List.mem_flatMap.mpr ⟨a, m a List.mem_cons_self, List.mem_map.mpr ⟨l, words_mem (by simpa using h) (fun x hx => m x (List.mem_cons_of_mem _ hx)), rfl⟩⟩
theorem flat_len {α β : Type} (g : α → List β) (m : Nat) : ∀ l : List α, (∀ a ∈ l, (g a).length = m) → (l.flatMap g).length = l.length * m
  | [], _ => by simp
  | a :: r, h => by
    rw [List.flatMap_cons, List.length_append, h a List.mem_cons_self, flat_len g m r fun b hb => h b (List.mem_cons_of_mem _ hb), List.length_cons, Nat.succ_mul]
    omega
theorem words_len (S : List Int) : ∀ k, (words S k).length = S.length ^ k
  | 0 => rfl
  | k + 1 => by
    show (S.flatMap fun a => (words S k).map (a :: ·)).length = _
    rw [flat_len _ (S.length ^ k) S (fun a _ => by rw [List.length_map, words_len]), Nat.pow_succ, Nat.mul_comm]
/-- rounds lead back, within as many turns as there are lists -/
theorem per_ex {ts : List Tie} {n : Nat} {row cs : List Int} (h : Stand n row) (hc : ∀ c ∈ cs, c ∈ up n) : ∃ T, T ≤ n ^ n ∧ Per (fun r => moved ts n r cs) row T := by
  generalize hf : (fun r => moved ts n r cs) = f
  have inv : ∀ x, moved ts n (f x) cs.reverse = x := fun x => by subst hf; exact moved_back ts n cs x
  have st : ∀ k, Stand n (it f k row) := fun k => by
    induction k with
    | zero => exact h
    | succ k ih => rw [it_succ]; subst hf; exact moved_stand ih hc
  have : ¬ ((List.range (n ^ n + 1)).map fun k => it f k row).Nodup := fun nd => by
    have := nodup_le' (D := words (up n) n) nd fun x hx => by
      obtain ⟨k, _, rfl⟩ := List.mem_map.mp hx
      exact words_mem (st k).length fun y hy => (st k).mem.mp hy
    rw [words_len, up_length, List.length_map, List.length_range] at this
    omega
  have : ∃ i j, i < j ∧ j ≤ n ^ n ∧ it f i row = it f j row := by
    refine Classical.byContradiction fun z => this ?_
    refine List.pairwise_iff_getElem.mpr fun i j hi hj hij e => z ⟨i, j, hij, ?_, ?_⟩
    · rw [List.length_map, List.length_range] at hj; omega
    · simpa using e
  obtain ⟨i, j, hij, hj, e⟩ := this
  have inj : ∀ (k : Nat) (u v : List Int), it f k u = it f k v → u = v := fun k => by
    induction k with
    | zero => exact fun u v h => h
    | succ k ih => exact fun u v h => by have := ih _ _ h; rw [← inv u, this, inv]
  have e2 : it f i row = it f i (it f (j - i) row) := by
    rw [← it_add, show j - i + i = j by omega]; exact e
  obtain ⟨S, hS, p⟩ := Per.of (f := f) (x := row) (T := j - i) (by omega) (inj i _ _ e2).symm
  exact ⟨S, by omega, p⟩
end Ap


/-! P2: lists of whole numbers beside one another. -/
namespace Ap
open PySem L2
theorem eqv_all : ∀ a b : List Int, PyData.eqvAll (a.map PyData.int) (b.map PyData.int) = decide (a = b)
  | [], [] => by simp [PyData.eqvAll]
  | [], _ :: _ => by simp [PyData.eqvAll]
  | _ :: _, [] => by simp [PyData.eqvAll]
  | x :: a, y :: b => by
    rw [List.map_cons, List.map_cons, PyData.eqvAll, eqv_all a b, PyData.eqv]
    rw [show (x == y) = decide (x = y) by rw [Bool.eq_iff_iff, beq_iff_eq, decide_eq_true_eq], ← Bool.decide_and]
    exact decide_eq_decide.mpr (by rw [List.cons.injEq])
theorem eqv_intsD (a b : List Int) : PyData.eqv (intsD a) (intsD b) = decide (a = b) := by
  unfold intsD
  rw [PyData.eqv]
  exact eqv_all a b
theorem lay_ints : ∀ a : List Int, PyData.canLayAll0 (a.map PyData.int) = true
  | [] => by simp [PyData.canLayAll0]
  | x :: a => by rw [List.map_cons, PyData.canLayAll0, lay_ints a, PyData.canLay0]; rfl
theorem depth_ints : ∀ a : List Int, PyData.depthAll (a.map PyData.int) = 0
  | [] => by simp [PyData.depthAll]
  | x :: a => by rw [List.map_cons, PyData.depthAll, depth_ints a, PyData.depth]; rfl
theorem shaped_ints (a : List Int) : SeqAt.shaped (intsD a) = true := by
  unfold SeqAt.shaped intsD
  rw [PyData.canLay0, lay_ints, PyData.depth, depth_ints]
  rfl
section
variable {K : PySem.W.Frag} {H : Hp} {Q : VK} {a b : Addr} {xs ys : List Int}
theorem dp_ints (e : H a = some (.lst (xs.map V.int))) : Dp K H (.ref a) (intsD xs) := (Da.ints (P := fun _ => True) trivial e).dp
theorem g_neI2 (e : H a = some (.lst (xs.map V.int))) (e2 : H b = some (.lst (ys.map V.int))) (h : Q (.bl (!decide (xs = ys))) H) : rNeD K (.ref a) (.ref b) H Q :=
  g_neD (dp_ints e) (dp_ints e2) (shaped_ints _) (shaped_ints _) (by rw [eqv_intsD]; exact h)
theorem g_eqI2 (e : H a = some (.lst (xs.map V.int))) (e2 : H b = some (.lst (ys.map V.int))) (h : Q (.bl (decide (xs = ys))) H) : rEqD K (.ref a) (.ref b) H Q :=
  g_eqD (dp_ints e) (dp_ints e2) (shaped_ints _) (shaped_ints _) (by rw [eqv_intsD]; exact h)
end
theorem map_int_inj {a b : List Int} (h : a.map V.int = b.map V.int) : a = b := by
  induction a generalizing b with
  | nil => cases b with
    | nil => rfl
    | cons _ _ => cases h
  | cons x a ih => cases b with
    | nil => cases h
    | cons y b =>
      simp only [List.map_cons, List.cons.injEq, V.int.injEq] at h
      rw [h.1, ih h.2]
end Ap


/-! K9: what the law's helpers hold fast; texts of nets and rows. -/
namespace Ap
open PySem L2
theorem ne_same {x : Str} : (!decide (x = x)) = false := by rw [decide_eq_true rfl]; rfl
structure LB (tb : List Addr) (a : Addr) (ts : List Tie) (row : List Int) (tp rp : Addr) (H : Hp) : Prop where
  nt : Da (fun b => b ≠ a) H (.ref tp) (netD ts)
  now : H rp = some (.lst (row.map V.int))
  ne : rp ≠ a
  tabs : Tabs tb H
theorem LB.kp {tb : List Addr} {a : Addr} {ts : List Tie} {row : List Int} {tp rp : Addr} {H H' : Hp} (h : LB tb a ts row tp rp H) (k : Kp [] H H') : LB tb a ts row tp rp H' :=
  ⟨h.nt.keep k (fun _ _ => nin0) fun _ h => h, k.lst nin0 h.now, h.ne, k.tabs h.tabs⟩
theorem LB.kpa {tb : List Addr} {a : Addr} {ts : List Tie} {row : List Int} {tp rp : Addr} {H H' : Hp} (h : LB tb a ts row tp rp H) (k : Kp [a] H H') : LB tb a ts row tp rp H' :=
  ⟨h.nt.keep k (fun _ hb => nin1 hb) fun _ h => h, k.lst (nin1 h.ne) h.now, h.ne, k.tabs h.tabs⟩
theorem LB.net {tb : List Addr} {a : Addr} {ts : List Tie} {row : List Int} {tp rp : Addr} {H : Hp} (h : LB tb a ts row tp rp H) : Da (fun _ => True) H (.ref tp) (netD ts) := h.nt.imp fun _ _ => trivial
theorem Shw.grow {x : PyData} {b d b' d' : Nat} (h : Shw x b d) (hb : b ≤ b') (hd : d ≤ d') : Shw x b' d' := ⟨h.ok, Nat.le_trans h.len hb, Nat.le_trans h.dp hd⟩
theorem Shw.row {n : Nat} {row : List Int} (h : ∀ x ∈ row, x ∈ up n) (hn : n ≤ 40) {m : Nat} (hl : row.length ≤ m) : Shw (intsD row) (4 * m + 2) 1 :=
  Shw.ints (fun x hx => by have := up_mem.mp (h x hx); omega) hl
theorem Shw.stand {n : Nat} {row : List Int} (h : Stand n row) (hn : n ≤ 40) : Shw (intsD row) 20000 2 :=
  (Shw.row (fun x hx => h.mem.mp hx) hn (m := 40) (by rw [h.length]; exact hn)).grow (by decide) (by decide)
theorem Shw.three {a b c : PyData} {n d : Nat} (h1 : Shw a n d) (h2 : Shw b n d) (h3 : Shw c n d) : Shw (.list [a, b, c]) ((n + 2) * 3 + 2) (d + 1) :=
  Shw.list (fun x hx => by
    simp at hx
    rcases hx with rfl | rfl | rfl
    · exact h1
    · exact h2
    · exact h3) (Nat.le_refl _)
section
variable {K : PySem.W.Frag} {H : Hp} {p q r t : Addr} {da db dc : PyData}
theorem dp_two (e : H p = some (.lst [.ref q, .ref r])) (a : Dp K H (.ref q) da) (b : Dp K H (.ref r) db) : Dp K H (.ref p) (.list [da, db]) := .lst (SqL.of e) (.cons a (.cons b .nil))
theorem dp_three (e : H p = some (.lst [.ref q, .ref r, .ref t])) (a : Dp K H (.ref q) da) (b : Dp K H (.ref r) db) (c : Dp K H (.ref t) dc) : Dp K H (.ref p) (.list [da, db, dc]) := .lst (SqL.of e) (.cons a (.cons b (.cons c .nil)))
end
end Ap


/-! K8: name = {k: v for ..}. -/
namespace Ap
open PySem L2 PySem.Spec PyProof.Rows
section
variable {X : Cx}
theorem ps_setDc {i : Nat} {y : Str} {py : Pos} {kx vx tg iter : Expr} {ifs : List Expr} {scope : Scope} {own : List (Str × Nat)} {pos spos : Pos} {wi : TI} {g : TG} {tt : TT} {tk tv : TE} (hc : X.calm = true) (hN : X.N.Nodup) (hy : X.N[i]? = some y)
    (hyl : X.env.scope.names.lookup y = some .local) (hsw : swapsWith (.DictComp kx vx [⟨tg, iter, ifs, 0⟩] scope pos) (some (.Name y py)) spos.line X.env = pure true) (hi : PI X tg iter wi) (ok : BlkOk X.N X.env.scope scope own)
    (hg : ∀ (s : Shared) (H : Hp) (C : Addr) (cl : List (Str × Addr)) (fp : List Addr), PG (X.blk s H scope (compEnvC scope cl C X.env) fp) tg g)
    (ht : ∀ (s : Shared) (H : Hp) (C : Addr) (cl : List (Str × Addr)) (fp : List Addr), PTs (X.blk s H scope (compEnvC scope cl C X.env) fp) ifs tt)
    (hk : ∀ (s : Shared) (H : Hp) (C : Addr) (cl : List (Str × Addr)) (fp : List Addr), PE (X.blk s H scope (compEnvC scope cl C X.env) fp) kx tk)
    (he : ∀ (s : Shared) (H : Hp) (C : Addr) (cl : List (Str × Addr)) (fp : List Addr), PE (X.blk s H scope (compEnvC scope cl C X.env) fp) vx tv) (hs : ∀ x, foldedSetIterable iter X.env x = pure x := by intro _; rfl) :
    PS X (.Assign [.Name y py] (.DictComp kx vx [⟨tg, iter, ifs, 0⟩] scope pos) spos) (tAsg (tDc wi g tt tk tv (own.map (·.2))) (gName i)) := by
  refine ⟨fun pins s σ H D I h => ?_⟩
  rw [exec_Assign_Name_used _ _ _ _ hsw]
  refine wpAny_bind (wpAny_standAt (wpAny_bind ?_))
  show wpAny _ X.A (do let _ ← comprehension (.DictComp kx vx [⟨tg, iter, ifs, 0⟩] scope pos) scope X.env (firstIterPos [⟨tg, iter, ifs, 0⟩] pos) newDict false (eval iter X.env) (some (assign (.Name y py) X.env))) _ _ s
  have h : tDc wi g tt tk tv (own.map (·.2)) σ H (fun x H1 => gName i x σ H1 D.nx) := h
  refine wpAny_bind (thn (dc_core (Qf := fun _ s' => SP X pins D .next s') hc hN I hi ok hg ht hk he hs h fun L C s' m H' I' q hn f => ?_) fun _ s' hq => wpAny_pure (wpAny_pure hq))
  show wpAny _ _ (assign (.Name y py) X.env (.ref L)) _ _ _
  refine wpAny_assign_Name (store_ok2 (v := V.ref L) I' hN hy (.inl hyl) rfl (fun s2 I2 ⟨a, sb, ha⟩ => ?_) (.inr hyl))
  obtain ⟨f0, f1, f2, f3, f4, f5⟩ := f
  have haC : C ≠ a := by
    rcases ha with z | z
    · rw [z]; exact f1
    · exact fun e => f4 y a z e.symm
  refine ⟨m, hn.sameBut sb haC, fun h3 sb3 => ?_⟩
  exact ⟨_, H', I2.turned (t' := s2.toks) (fun b o hb e => (sb3.2 b hb).trans e) f0 f1 f3 f4 f5, q⟩
theorem sw_trueD {kx vx : Expr} {gs : List Comprehension} {scope : Scope} {pos py : Pos} {y : Str} {l : Nat} {env : Env} (hk : env.scope.kind = .function) (hy : env.scope.names.lookup y = some .local) (hl : (py.line == pos.line) = true)
    (ha : (scope.names.any fun (n, k) => n == y && (k == .local || k == .cell)) = false) : swapsWith (.DictComp kx vx gs scope pos) (some (.Name y py)) l env = pure true := by
  have ky : env.kindOf y = some .local := hy
  have hb : env.blockKind = .function := by unfold Env.blockKind; rw [hk]; rfl
  unfold swapsWith
  simp only [hb, ky, ha, Expr.pos, hl]
  rfl
end
end Ap


namespace Ap
open PySem L2
def topS (i : Nat) : Stmt := PySem.Challenge.pw_apartcalls_k30_whole_turns.main.body.getD i (.Pass ⟨0, 0, 0, 0⟩)
abbrev s_is_whole : Stmt := topS 9
theorem sc_is_whole : FnScope ["thing"] ["thing"] (defScope s_is_whole) := ⟨rfl, rfl, rfl, by decide +kernel, rfl, by decide +kernel, by decide +kernel⟩
abbrev s_is_within : Stmt := topS 10
theorem sc_is_within : FnScope ["thing", "most"] ["thing", "most"] (defScope s_is_within) := ⟨rfl, rfl, rfl, by decide +kernel, rfl, by decide +kernel, by decide +kernel⟩
abbrev s_check_seats : Stmt := topS 11
theorem sc_check_seats : FnScope ["seats"] ["seats"] (defScope s_check_seats) := ⟨rfl, rfl, rfl, by decide +kernel, rfl, by decide +kernel, by decide +kernel⟩
abbrev s_check_ties : Stmt := topS 12
theorem sc_check_ties : FnScope ["seats", "ties", "seen", "index", "tie"] ["seats", "ties"] (defScope s_check_ties) := ⟨rfl, rfl, rfl, by decide +kernel, rfl, by decide +kernel, by decide +kernel⟩
abbrev s_check_net : Stmt := topS 13
theorem sc_check_net : FnScope ["seats", "ties"] ["seats", "ties"] (defScope s_check_net) := ⟨rfl, rfl, rfl, by decide +kernel, rfl, by decide +kernel, by decide +kernel⟩
abbrev s_near_in : Stmt := topS 14
theorem sc_near_in : FnScope ["seats", "ties", "near", "one", "two", "seat"] ["seats", "ties"] (defScope s_near_in) := ⟨rfl, rfl, rfl, by decide +kernel, rfl, by decide +kernel, by decide +kernel⟩
abbrev s_next_round : Stmt := topS 20
theorem sc_next_round : FnScope ["number", "count"] ["number", "count"] (defScope s_next_round) := ⟨rfl, rfl, rfl, by decide +kernel, rfl, by decide +kernel, by decide +kernel⟩
abbrev s_wrong_place : Stmt := topS 16
theorem sc_wrong_place : FnScope ["things", "count", "seen", "index", "thing"] ["things", "count"] (defScope s_wrong_place) := ⟨rfl, rfl, rfl, by decide +kernel, rfl, by decide +kernel, by decide +kernel⟩
abbrev s_check_order : Stmt := topS 17
theorem sc_check_order : FnScope ["order"] ["order"] (defScope s_check_order) := ⟨rfl, rfl, rfl, by decide +kernel, rfl, by decide +kernel, by decide +kernel⟩
abbrev s_check_order_of : Stmt := topS 18
theorem sc_check_order_of : FnScope ["order", "count", "index"] ["order", "count"] (defScope s_check_order_of) := ⟨rfl, rfl, rfl, by decide +kernel, rfl, by decide +kernel, by decide +kernel⟩
abbrev s_check_orders : Stmt := topS 19
theorem sc_check_orders : FnScope ["order", "other"] ["order", "other"] (defScope s_check_orders) := ⟨rfl, rfl, rfl, by decide +kernel, rfl, by decide +kernel, by decide +kernel⟩
abbrev s_breaks_in : Stmt := topS 21
theorem sc_breaks_in : FnScope ["order", "spot", "place", "call"] ["order"] (defScope s_breaks_in) := ⟨rfl, rfl, rfl, by decide +kernel, rfl, by decide +kernel, by decide +kernel⟩
abbrev s_check_standing : Stmt := topS 28
theorem sc_check_standing : FnScope ["seats", "standing", "index"] ["seats", "standing"] (defScope s_check_standing) := ⟨rfl, rfl, rfl, by decide +kernel, rfl, by decide +kernel, by decide +kernel⟩
abbrev s_check_calls : Stmt := topS 29
theorem sc_check_calls : FnScope ["seats", "calls", "index", "call"] ["seats", "calls"] (defScope s_check_calls) := ⟨rfl, rfl, rfl, by decide +kernel, rfl, by decide +kernel, by decide +kernel⟩
abbrev s_called_in : Stmt := topS 30
theorem sc_called_in : FnScope ["near", "standing", "calls", "row", "spot", "changes", "one", "two", "seat", "person"] ["near", "standing", "calls"] (defScope s_called_in) := ⟨rfl, rfl, rfl, by decide +kernel, rfl, by decide +kernel, by decide +kernel⟩
abbrev s_back_in : Stmt := topS 31
theorem sc_back_in : FnScope ["near", "standing", "order", "row", "told"] ["near", "standing", "order"] (defScope s_back_in) := ⟨rfl, rfl, rfl, by decide +kernel, rfl, by decide +kernel, by decide +kernel⟩
abbrev s_called : Stmt := topS 32
theorem sc_called : FnScope ["seats", "ties", "standing", "calls"] ["seats", "ties", "standing", "calls"] (defScope s_called) := ⟨rfl, rfl, rfl, by decide +kernel, rfl, by decide +kernel, by decide +kernel⟩
abbrev s_after_rounds : Stmt := topS 33
theorem sc_after_rounds : FnScope ["seats", "ties", "standing", "order", "many", "near", "row", "turn"] ["seats", "ties", "standing", "order", "many"] (defScope s_after_rounds) := ⟨rfl, rfl, rfl, by decide +kernel, rfl, by decide +kernel, by decide +kernel⟩
abbrev s_goals_in : Stmt := topS 23
theorem sc_goals_in : FnScope ["order", "other", "count", "spots", "ends", "size", "told", "shift", "goals", "far", "at"] ["order", "other"] (defScope s_goals_in) := ⟨rfl, rfl, rfl, by decide +kernel, rfl, by decide +kernel, by decide +kernel⟩
abbrev s_fewest_turns : Stmt := topS 24
theorem sc_fewest_turns : FnScope ["order", "other", "told"] ["order", "other"] (defScope s_fewest_turns) := ⟨rfl, rfl, rfl, by decide +kernel, rfl, by decide +kernel, by decide +kernel⟩
abbrev s_turns : Stmt := topS 25
theorem sc_turns : FnScope ["order", "other", "plan", "count", "spots", "goals", "told", "at", "goal", "step", "taken", "spot"] ["order", "other"] (defScope s_turns) := ⟨rfl, rfl, rfl, by decide +kernel, rfl, by decide +kernel, by decide +kernel⟩
abbrev s_Ldraws : Stmt := topS 35
theorem sc_Ldraws : FnScope ["_law_cell"] ["_law_cell"] (defScope s_Ldraws) := ⟨rfl, rfl, rfl, by decide +kernel, rfl, by decide +kernel, by decide +kernel⟩
abbrev s_Lnext : Stmt := topS 36
theorem sc_Lnext : FnScope ["_law_draws_here", "_law_k", "_law_number"] ["_law_draws_here"] (defScope s_Lnext) := ⟨rfl, rfl, rfl, by decide +kernel, rfl, by decide +kernel, by decide +kernel⟩
abbrev s_Lmixed : Stmt := topS 37
theorem sc_Lmixed : FnScope ["_law_draws_here", "_law_some", "_law_left", "_law_told"] ["_law_draws_here", "_law_some"] (defScope s_Lmixed) := ⟨rfl, rfl, rfl, by decide +kernel, rfl, by decide +kernel, by decide +kernel⟩
abbrev s_Lnet : Stmt := topS 38
theorem sc_Lnet : FnScope ["_law_draws_here", "_law_most", "_law_seats", "_law_kind", "_law_line", "_law_ties", "_law_at", "_law_pick", "_law_other"] ["_law_draws_here", "_law_most"] (defScope s_Lnet) := ⟨rfl, rfl, rfl, by decide +kernel, rfl, by decide +kernel, by decide +kernel⟩
abbrev s_Lnear : Stmt := topS 39
theorem sc_Lnear : FnScope ["_law_ties", "_law_near_here", "_law_one", "_law_two"] ["_law_ties"] (defScope s_Lnear) := ⟨rfl, rfl, rfl, by decide +kernel, rfl, by decide +kernel, by decide +kernel⟩
abbrev s_Lwhere : Stmt := topS 40
theorem sc_Lwhere : FnScope ["_law_standing", "_law_told", "_law_at", "_law_person"] ["_law_standing"] (defScope s_Lwhere) := ⟨rfl, rfl, rfl, by decide +kernel, rfl, by decide +kernel, by decide +kernel⟩
abbrev s_Lsitting : Stmt := topS 41
theorem sc_Lsitting : FnScope ["_law_where_here", "_law_told", "_law_person"] ["_law_where_here"] (defScope s_Lsitting) := ⟨rfl, rfl, rfl, by decide +kernel, rfl, by decide +kernel, by decide +kernel⟩
abbrev s_Lcalled : Stmt := topS 42
theorem sc_Lcalled : FnScope ["_law_near_here", "_law_where_here", "_law_calls", "_law_now", "_law_call", "_law_other", "_law_one", "_law_two"] ["_law_near_here", "_law_where_here", "_law_calls"] (defScope s_Lcalled) := ⟨rfl, rfl, rfl, by decide +kernel, rfl, by decide +kernel, by decide +kernel⟩
abbrev s_Lbreaks : Stmt := topS 43
theorem sc_Lbreaks : FnScope ["_law_order", "_law_many", "_law_call"] ["_law_order"] (defScope s_Lbreaks) := ⟨rfl, rfl, rfl, by decide +kernel, rfl, by decide +kernel, by decide +kernel⟩
abbrev s_Lturned : Stmt := topS 44
theorem sc_Lturned : FnScope ["_law_some", "_law_call", "_law_many", "_law_ahead", "_law_gone", "_law_come", "_law_one"] ["_law_some", "_law_call", "_law_many"] (defScope s_Lturned) := ⟨rfl, rfl, rfl, by decide +kernel, rfl, by decide +kernel, by decide +kernel⟩
abbrev s_Lsteps : Stmt := topS 45
theorem sc_Lsteps : FnScope ["_law_first", "_law_last", "_law_many", "_law_found", "_law_layer", "_law_wider", "_law_some", "_law_call", "_law_more"] ["_law_first", "_law_last", "_law_many"] (defScope s_Lsteps) := ⟨rfl, rfl, rfl, by decide +kernel, rfl, by decide +kernel, by decide +kernel⟩
abbrev s_Lleast : Stmt := topS 46
theorem sc_Lleast : FnScope ["_law_first", "_law_last", "_law_many", "_law_size", "_law_best", "_law_turn", "_law_far", "_law_at", "_law_one", "_law_spot", "_law_goal"] ["_law_first", "_law_last", "_law_many"] (defScope s_Lleast) := ⟨rfl, rfl, rfl, by decide +kernel, rfl, by decide +kernel, by decide +kernel⟩
abbrev s_Lright : Stmt := topS 47
theorem sc_Lright : FnScope ["_law_order", "_law_other", "_law_before", "_law_many", "_law_first", "_law_last", "_law_told", "_law_rows", "_law_due", "_law_call"] ["_law_order", "_law_other"] (defScope s_Lright) := ⟨rfl, rfl, rfl, by decide +kernel, rfl, by decide +kernel, by decide +kernel⟩
abbrev s_Lleads_right : Stmt := topS 48
theorem sc_Lleads_right : FnScope ["_law_seats", "_law_ties", "_law_standing", "_law_order", "_law_other", "_law_path", "_law_near_here", "_law_where_here", "_law_goal", "_law_now"] ["_law_seats", "_law_ties", "_law_standing", "_law_order", "_law_other"] (defScope s_Lleads_right) := ⟨rfl, rfl, rfl, by decide +kernel, rfl, by decide +kernel, by decide +kernel⟩
abbrev s_Lothers : Stmt := topS 49
theorem sc_Lothers : FnScope ["_law_draws_here", "_law_order", "_law_many", "_law_by", "_law_shifted", "_law_bent", "_law_turn", "_law_at", "_law_mixed_here", "_law_call"] ["_law_draws_here", "_law_order"] (defScope s_Lothers) := ⟨rfl, rfl, rfl, by decide +kernel, rfl, by decide +kernel, by decide +kernel⟩
abbrev s_law : Stmt := topS 50
theorem sc_law : FnScope ["_law_script", "_law_draws_here", "_law_most", "_law_order", "_law_other", "_law_first", "_law_last", "_law_seats", "_law_ties", "_law_standing", "_law_ordered", "_law_at", "_law_cell"] ["_law_script"] (defScope s_law) := ⟨rfl, rfl, rfl, by decide +kernel, rfl, by decide +kernel, by decide +kernel⟩
structure Txt (K : PySem.W.Frag) (mg : Str → Option Value) (base : Heap) where
  n_abs : mg "abs" = none
  n_all : mg "all" = none
  n_bool : mg "bool" = none
  n_enumerate : mg "enumerate" = none
  n_int : mg "int" = none
  n_isinstance : mg "isinstance" = none
  n_len : mg "len" = none
  n_list : mg "list" = none
  n_max : mg "max" = none
  n_min : mg "min" = none
  n_range : mg "range" = none
  n_repr : mg "repr" = none
  n_set : mg "set" = none
  n_sorted : mg "sorted" = none
  n_sum : mg "sum" = none
  n_tuple : mg "tuple" = none
  n_zip : mg "zip" = none
  t_FEWEST_SEATS : Tok
  v_FEWEST_SEATS : mg "FEWEST_SEATS" = some (.int 3 t_FEWEST_SEATS)
  t_MOST_SEATS : Tok
  v_MOST_SEATS : mg "MOST_SEATS" = some (.int 40 t_MOST_SEATS)
  t_MOST_STEPS : Tok
  v_MOST_STEPS : mg "MOST_STEPS" = some (.int 1000 t_MOST_STEPS)
  a_is_whole : Addr
  fd_is_whole : FuncData
  F_is_whole : Fun K "is_whole" "is_whole" s_is_whole a_is_whole fd_is_whole
  m_is_whole : mg "is_whole" = some (.ref a_is_whole)
  b_is_whole : Binds K fd_is_whole ["thing"] []
  a_is_within : Addr
  fd_is_within : FuncData
  F_is_within : Fun K "is_within" "is_within" s_is_within a_is_within fd_is_within
  m_is_within : mg "is_within" = some (.ref a_is_within)
  b_is_within : Binds K fd_is_within ["thing", "most"] []
  a_check_seats : Addr
  fd_check_seats : FuncData
  F_check_seats : Fun K "check_seats" "check_seats" s_check_seats a_check_seats fd_check_seats
  m_check_seats : mg "check_seats" = some (.ref a_check_seats)
  b_check_seats : Binds K fd_check_seats ["seats"] []
  a_check_ties : Addr
  fd_check_ties : FuncData
  F_check_ties : Fun K "check_ties" "check_ties" s_check_ties a_check_ties fd_check_ties
  m_check_ties : mg "check_ties" = some (.ref a_check_ties)
  b_check_ties : Binds K fd_check_ties ["seats", "ties"] []
  c_check_ties : Addr
  p_check_ties : Addr
  k_check_ties : fd_check_ties.code = .ref c_check_ties
  TB_check_ties : GxR.TabB base mg c_check_ties p_check_ties
  lg_check_ties : lamT p_check_ties = none
  a_check_net : Addr
  fd_check_net : FuncData
  F_check_net : Fun K "check_net" "check_net" s_check_net a_check_net fd_check_net
  m_check_net : mg "check_net" = some (.ref a_check_net)
  b_check_net : Binds K fd_check_net ["seats", "ties"] []
  a_near_in : Addr
  fd_near_in : FuncData
  F_near_in : Fun K "near_in" "near_in" s_near_in a_near_in fd_near_in
  m_near_in : mg "near_in" = some (.ref a_near_in)
  b_near_in : Binds K fd_near_in ["seats", "ties"] []
  a_next_round : Addr
  fd_next_round : FuncData
  F_next_round : Fun K "next_round" "next_round" s_next_round a_next_round fd_next_round
  m_next_round : mg "next_round" = some (.ref a_next_round)
  b_next_round : Binds K fd_next_round ["number", "count"] []
  a_wrong_place : Addr
  fd_wrong_place : FuncData
  F_wrong_place : Fun K "wrong_place" "wrong_place" s_wrong_place a_wrong_place fd_wrong_place
  m_wrong_place : mg "wrong_place" = some (.ref a_wrong_place)
  b_wrong_place : Binds K fd_wrong_place ["things", "count"] []
  a_check_order : Addr
  fd_check_order : FuncData
  F_check_order : Fun K "check_order" "check_order" s_check_order a_check_order fd_check_order
  m_check_order : mg "check_order" = some (.ref a_check_order)
  b_check_order : Binds K fd_check_order ["order"] []
  a_check_order_of : Addr
  fd_check_order_of : FuncData
  F_check_order_of : Fun K "check_order_of" "check_order_of" s_check_order_of a_check_order_of fd_check_order_of
  m_check_order_of : mg "check_order_of" = some (.ref a_check_order_of)
  b_check_order_of : Binds K fd_check_order_of ["order", "count"] []
  a_check_orders : Addr
  fd_check_orders : FuncData
  F_check_orders : Fun K "check_orders" "check_orders" s_check_orders a_check_orders fd_check_orders
  m_check_orders : mg "check_orders" = some (.ref a_check_orders)
  b_check_orders : Binds K fd_check_orders ["order", "other"] []
  a_breaks_in : Addr
  fd_breaks_in : FuncData
  F_breaks_in : Fun K "breaks_in" "breaks_in" s_breaks_in a_breaks_in fd_breaks_in
  m_breaks_in : mg "breaks_in" = some (.ref a_breaks_in)
  b_breaks_in : Binds K fd_breaks_in ["order"] []
  a_check_standing : Addr
  fd_check_standing : FuncData
  F_check_standing : Fun K "check_standing" "check_standing" s_check_standing a_check_standing fd_check_standing
  m_check_standing : mg "check_standing" = some (.ref a_check_standing)
  b_check_standing : Binds K fd_check_standing ["seats", "standing"] []
  a_check_calls : Addr
  fd_check_calls : FuncData
  F_check_calls : Fun K "check_calls" "check_calls" s_check_calls a_check_calls fd_check_calls
  m_check_calls : mg "check_calls" = some (.ref a_check_calls)
  b_check_calls : Binds K fd_check_calls ["seats", "calls"] []
  a_called_in : Addr
  fd_called_in : FuncData
  F_called_in : Fun K "called_in" "called_in" s_called_in a_called_in fd_called_in
  m_called_in : mg "called_in" = some (.ref a_called_in)
  b_called_in : Binds K fd_called_in ["near", "standing", "calls"] []
  a_back_in : Addr
  fd_back_in : FuncData
  F_back_in : Fun K "back_in" "back_in" s_back_in a_back_in fd_back_in
  m_back_in : mg "back_in" = some (.ref a_back_in)
  b_back_in : Binds K fd_back_in ["near", "standing", "order"] []
  a_called : Addr
  fd_called : FuncData
  F_called : Fun K "called" "called" s_called a_called fd_called
  m_called : mg "called" = some (.ref a_called)
  b_called : Binds K fd_called ["seats", "ties", "standing", "calls"] []
  a_after_rounds : Addr
  fd_after_rounds : FuncData
  F_after_rounds : FunD K "after_rounds" "after_rounds" (defArgs s_after_rounds) (defBody s_after_rounds) (defScope s_after_rounds) [.int 1] [] a_after_rounds fd_after_rounds
  ds_after_rounds : List Value
  r_after_rounds : Vals [.int 1] ds_after_rounds
  bd_after_rounds : Binds K fd_after_rounds ["seats", "ties", "standing", "order", "many"] ds_after_rounds
  m_after_rounds : mg "after_rounds" = some (.ref a_after_rounds)
  b_after_rounds : Binds K fd_after_rounds ["seats", "ties", "standing", "order", "many"] []
  a_goals_in : Addr
  fd_goals_in : FuncData
  F_goals_in : Fun K "goals_in" "goals_in" s_goals_in a_goals_in fd_goals_in
  m_goals_in : mg "goals_in" = some (.ref a_goals_in)
  b_goals_in : Binds K fd_goals_in ["order", "other"] []
  c_goals_in : Addr
  p_goals_in : Addr
  k_goals_in : fd_goals_in.code = .ref c_goals_in
  TB_goals_in : GxR.TabB base mg c_goals_in p_goals_in
  lg_goals_in : lamT p_goals_in = none
  a_fewest_turns : Addr
  fd_fewest_turns : FuncData
  F_fewest_turns : Fun K "fewest_turns" "fewest_turns" s_fewest_turns a_fewest_turns fd_fewest_turns
  m_fewest_turns : mg "fewest_turns" = some (.ref a_fewest_turns)
  b_fewest_turns : Binds K fd_fewest_turns ["order", "other"] []
  a_turns : Addr
  fd_turns : FuncData
  F_turns : Fun K "turns" "turns" s_turns a_turns fd_turns
  m_turns : mg "turns" = some (.ref a_turns)
  b_turns : Binds K fd_turns ["order", "other"] []
  a_Ldraws : Addr
  fd_Ldraws : FuncData
  F_Ldraws : Fun K "_law_draws" "_law_draws" s_Ldraws a_Ldraws fd_Ldraws
  m_Ldraws : mg "_law_draws" = some (.ref a_Ldraws)
  b_Ldraws : Binds K fd_Ldraws ["_law_cell"] []
  a_Lnext : Addr
  fd_Lnext : FuncData
  F_Lnext : Fun K "_law_next" "_law_next" s_Lnext a_Lnext fd_Lnext
  m_Lnext : mg "_law_next" = some (.ref a_Lnext)
  b_Lnext : Binds K fd_Lnext ["_law_draws_here"] []
  a_Lmixed : Addr
  fd_Lmixed : FuncData
  F_Lmixed : Fun K "_law_mixed" "_law_mixed" s_Lmixed a_Lmixed fd_Lmixed
  m_Lmixed : mg "_law_mixed" = some (.ref a_Lmixed)
  b_Lmixed : Binds K fd_Lmixed ["_law_draws_here", "_law_some"] []
  a_Lnet : Addr
  fd_Lnet : FuncData
  F_Lnet : Fun K "_law_net" "_law_net" s_Lnet a_Lnet fd_Lnet
  m_Lnet : mg "_law_net" = some (.ref a_Lnet)
  b_Lnet : Binds K fd_Lnet ["_law_draws_here", "_law_most"] []
  a_Lnear : Addr
  fd_Lnear : FuncData
  F_Lnear : Fun K "_law_near" "_law_near" s_Lnear a_Lnear fd_Lnear
  m_Lnear : mg "_law_near" = some (.ref a_Lnear)
  b_Lnear : Binds K fd_Lnear ["_law_ties"] []
  a_Lwhere : Addr
  fd_Lwhere : FuncData
  F_Lwhere : Fun K "_law_where" "_law_where" s_Lwhere a_Lwhere fd_Lwhere
  m_Lwhere : mg "_law_where" = some (.ref a_Lwhere)
  b_Lwhere : Binds K fd_Lwhere ["_law_standing"] []
  a_Lsitting : Addr
  fd_Lsitting : FuncData
  F_Lsitting : Fun K "_law_sitting" "_law_sitting" s_Lsitting a_Lsitting fd_Lsitting
  m_Lsitting : mg "_law_sitting" = some (.ref a_Lsitting)
  b_Lsitting : Binds K fd_Lsitting ["_law_where_here"] []
  a_Lcalled : Addr
  fd_Lcalled : FuncData
  F_Lcalled : Fun K "_law_called" "_law_called" s_Lcalled a_Lcalled fd_Lcalled
  m_Lcalled : mg "_law_called" = some (.ref a_Lcalled)
  b_Lcalled : Binds K fd_Lcalled ["_law_near_here", "_law_where_here", "_law_calls"] []
  a_Lbreaks : Addr
  fd_Lbreaks : FuncData
  F_Lbreaks : Fun K "_law_breaks" "_law_breaks" s_Lbreaks a_Lbreaks fd_Lbreaks
  m_Lbreaks : mg "_law_breaks" = some (.ref a_Lbreaks)
  b_Lbreaks : Binds K fd_Lbreaks ["_law_order"] []
  a_Lturned : Addr
  fd_Lturned : FuncData
  F_Lturned : Fun K "_law_turned" "_law_turned" s_Lturned a_Lturned fd_Lturned
  m_Lturned : mg "_law_turned" = some (.ref a_Lturned)
  b_Lturned : Binds K fd_Lturned ["_law_some", "_law_call", "_law_many"] []
  a_Lsteps : Addr
  fd_Lsteps : FuncData
  F_Lsteps : Fun K "_law_steps" "_law_steps" s_Lsteps a_Lsteps fd_Lsteps
  m_Lsteps : mg "_law_steps" = some (.ref a_Lsteps)
  b_Lsteps : Binds K fd_Lsteps ["_law_first", "_law_last", "_law_many"] []
  a_Lleast : Addr
  fd_Lleast : FuncData
  F_Lleast : Fun K "_law_least" "_law_least" s_Lleast a_Lleast fd_Lleast
  m_Lleast : mg "_law_least" = some (.ref a_Lleast)
  b_Lleast : Binds K fd_Lleast ["_law_first", "_law_last", "_law_many"] []
  a_Lright : Addr
  fd_Lright : FuncData
  F_Lright : Fun K "_law_right" "_law_right" s_Lright a_Lright fd_Lright
  m_Lright : mg "_law_right" = some (.ref a_Lright)
  b_Lright : Binds K fd_Lright ["_law_order", "_law_other"] []
  a_Lleads_right : Addr
  fd_Lleads_right : FuncData
  F_Lleads_right : Fun K "_law_leads_right" "_law_leads_right" s_Lleads_right a_Lleads_right fd_Lleads_right
  m_Lleads_right : mg "_law_leads_right" = some (.ref a_Lleads_right)
  b_Lleads_right : Binds K fd_Lleads_right ["_law_seats", "_law_ties", "_law_standing", "_law_order", "_law_other"] []
  a_Lothers : Addr
  fd_Lothers : FuncData
  F_Lothers : Fun K "_law_others" "_law_others" s_Lothers a_Lothers fd_Lothers
  m_Lothers : mg "_law_others" = some (.ref a_Lothers)
  b_Lothers : Binds K fd_Lothers ["_law_draws_here", "_law_order"] []
  a_law : Addr
  fd_law : FuncData
  F_law : Fun K "law" "law" s_law a_law fd_law
  m_law : mg "law" = some (.ref a_law)
  b_law : Binds K fd_law ["_law_script"] []
def Txt.tbs {K : PySem.W.Frag} {mg : Str → Option Value} {base : Heap} (T : Txt K mg base) : List Addr := [T.p_check_ties, T.p_goals_in]
end Ap


/-! K14: a list by a number. -/
namespace Ap
open PySem L2
section
variable {H : Hp} {Q : VK} {l : Addr} {xs : List V} {k : Int}
theorem g_mul (e : H l = some (.lst xs)) (h1 : -(2 ^ 63) ≤ k) (h2 : k < 2 ^ 63) (hz : xs.length * k.toNat ≤ 1000000) (h : ∀ p, H p = none → Q (.ref p) (upd H p (.lst (List.replicate k.toNat xs).flatten))) : L2.rRep (.ref l) (.int k) H Q :=
  ⟨l, k, xs, rfl, rfl, e, h1, h2, triv_sz hz, h⟩
end
/-- a, b = x, y -/
def kPar (i j : Nat) (R : L2.St → Hp → Prop) (σ : L2.St) : LK := fun vs H1 => ∃ v w, vs = [v, w] ∧ R ((σ.set i (some v)).set j (some w)) H1
instance i_par {i j : Nat} {ta : TA} {D : Ends} {σ : L2.St} {H : Hp} : St (tPar i j ta D σ H) (ta σ H (kPar i j D.nx σ)) := ⟨id⟩
instance i_kPar {i j : Nat} {R : L2.St → Hp → Prop} {σ : L2.St} {H : Hp} {v w : V} : St (kPar i j R σ [v, w] H) (gName i v σ H fun σ' H' => gName j w σ' H' R) := ⟨fun h => ⟨v, w, rfl, h⟩⟩
open PySem in
theorem DaAll.snoc {P : Addr → Prop} {H : Hp} : ∀ {ds : List PyData} {d : PyData} {ps : List V}, DaAll P H ps (ds ++ [d]) → ∃ qs v, ps = qs ++ [v] ∧ DaAll P H qs ds ∧ Da P H v d
  | [], d, _, .cons h .nil => ⟨[], _, rfl, .nil, h⟩
  | e :: ds, d, _, .cons h t => by
    obtain ⟨qs, v, rfl, a, b⟩ := DaAll.snoc t
    exact ⟨_ :: qs, v, rfl, .cons h a, b⟩
theorem zeros (m : Nat) : (List.replicate m [V.int 0]).flatten = (List.replicate m (0 : Int)).map V.int := by
  induction m with
  | zero => rfl
  | succ m ih => rw [List.replicate_succ, List.flatten_cons, ih, List.replicate_succ]; rfl
end Ap


/-! K38: sum(elt for x, y in zip(a, b)), the element code that leaves every object as it is. -/
namespace Ap
open PySem L2 PySem.Spec PyProof.Rows
theorem ans4 {b c d e f : Addr} (h : b = c ∨ b = d ∨ b = e ∨ b = f) : @Eq Nat b c ∨ @Eq Nat b d ∨ @Eq Nat b e ∨ @Eq Nat b f := h
theorem ans5 {b c d e f g : Addr} (h : b = c ∨ b = d ∨ b = e ∨ b = f ∨ b = g) : @Eq Nat b c ∨ @Eq Nat b d ∨ @Eq Nat b e ∨ @Eq Nat b f ∨ @Eq Nat b g := h
theorem ans7 {b c d e f g i j : Addr} (h : b = c ∨ b = d ∨ b = e ∨ b = f ∨ b = g ∨ b = i ∨ b = j) : @Eq Nat b c ∨ @Eq Nat b d ∨ @Eq Nat b e ∨ @Eq Nat b f ∨ @Eq Nat b g ∨ @Eq Nat b i ∨ @Eq Nat b j := h
/-- the frame of a generator expression's element, its two names bound to u and v; h1: the heap in which it was made -/
def qx2Of (X : Cx) (scope : Scope) (x y : Str) (P : Addr) (h1 : Heap) (C : Addr) (code : Value) (u v : Value) (A : Around) : Qx where
  P := X.prog
  w := X.w
  K := X.K
  mg := X.mg
  env := genEnv scope (cloFrom X.env.cells scope.names []) C code builtinsNs X.env
  A := A
  good := fun h => Gd X.K X.mg h ∧ (∀ b o, b ≠ P → h1.get? b = some o → h.get? b = some o) ∧ ∃ m, h.Ns C m ∧ m x = some u ∧ m y = some v
theorem qx2Of_ok {X : Cx} (gl : X.env.globals = mainGlobals) {scope : Scope} (hk : scope.kind = .function) {x y : Str} {P : Addr} {h1 : Heap} {C : Addr} {code u v : Value} {A : Around} : (qx2Of X scope x y P h1 C code u v A).Ok where
  gd := fun h g => g.1
  kp := fun h h' g k => ⟨g.1.keeps k, fun b o n e => k b o (g.2.1 b o n e), let ⟨m, a, e⟩ := g.2.2; ⟨m, a.keeps k, e⟩⟩
  kind := hk
  glob := gl
  blt := rfl
/-- what the element is at the items wa and wb: the answer fits R -/
def EltZ (X : Cx) (scope : Scope) (x y : Str) (P : Addr) (elt : Expr) (Cn : L2.St → Hp → V → V → (Value → Prop) → Prop) : Prop :=
  ∀ (pins : List (Addr × Obj)) (σ : L2.St) (H : Hp) (s : Shared), Inv X pins σ H s → (∃ ps, H P = some (.tbl ps)) → ∀ (wa wb : V) (R : Value → Prop), Cn σ H wa wb R → ∀ (ua ub : Value), RelV wa ua → RelV wb ub → ∀ (C : Addr) (code : Value) (A : Around), A.handled = none → A.depth ≤ X.A.depth + 1 → A.units ≤ X.A.units + 8 →
    QE (qx2Of X scope x y P s.heap C code ua ub A) elt R
/-- the scope of a generator expression with two names -/
structure GenS2 (env : Env) (scope : Scope) (x y : Str) : Prop where
  kind : scope.kind = .function
  co : scope.isCoroutine = false
  cell : ∀ y ∈ scope.names, y.2 ≠ .cell
  dot : scope.names.lookup (".0" : Str) = some NameKind.local
  loc : scope.names.lookup x = some .local
  loc2 : scope.names.lookup y = some .local
  ne : x ≠ y
  free : ∀ y ∈ scope.names, y.2 = .free → ∃ c, env.cells.lookup y.1 = some c
section
variable {X : Cx} {pins : List (Addr × Obj)} {σ : L2.St} {H : Hp} {s : Shared}
theorem gen_zip {c P : Addr} {elt e1 e2 : Expr} {x y : Str} {px py pt gpos p pos : Pos} {kt : Nat} {scope : Scope} {ta : TA} {k : Nat} {Q' : Value → Shared → Prop} {Cn : L2.St → Hp → V → V → (Value → Prop) → Prop} {Rst : List V → List V → (Nat → Value → Prop) → Hp → Prop}
    (hr : Room k X.A) (hg : Gl X "zip") (hm : X.mg "zip" = none) (TB : GxR.TabB X.base X.mg c P) (hcode : X.env.code = .ref c) (S : GenS2 X.env scope x y) (ha : PA X [e1, e2] ta) (hel : EltZ X scope x y P elt Cn)
    (hs : ∀ v, genFold (.Call (.Name "zip" p) [e1, e2] [] pos) X.env v = pure v)
    (hz1 : starEach [e1, e2] X.env = (false, eval e1 X.env) :: starEach [e2] X.env := by rfl) (hz2 : (backTo pos (starEach [e2] X.env)).any (·.1) = false := by rfl)
    (I : Inv X pins σ H s)
    {Post : List V → Hp → Prop} (h : ta σ H Post)
    (hp : ∀ vs H1, Post vs H1 → ∃ (l1 l2 : Addr) (ws zs : List V) (RR : Nat → Value → Prop), vs = [.ref l1, .ref l2] ∧ SqL X.K H1 l1 ws ∧ SqL X.K H1 l2 zs ∧ (∀ (i : Nat) w z, ws[i]? = some w → zs[i]? = some z → Cn σ H1 w z (RR i)) ∧ GxR.TabG H1 P ∧ Rst ws zs RR H1)
    (hQ : ∀ ws zs RR H1 g s5, Rst ws zs RR H1 → (∃ (fp wr : List Addr) (G : Array GenState → Array GenState → Prop) (F : Nat → Value → Prop) (St : Nat → Shared → Prop),
      WalksS X.prog X.w X.A.in4 g fp wr G (min ws.length zs.length) F St ∧ St 0 s5 ∧ (∀ b ∈ fp, b < s5.heap.objs.size) ∧ (∀ j v, F j v → j < min ws.length zs.length ∧ RR j v) ∧
      ∀ s', Moved wr G s5 s' → ∃ H2, GxR.Tabbed P H1 H2 ∧ Inv X pins σ H2 s') → Q' (.ref g) s5) :
    wpAny (model X.prog X.w) X.A (eval (.GeneratorExp elt [⟨.Tuple [.Name x px, .Name y py] kt pt, .Call (.Name "zip" p) [e1, e2] [] pos, [], 0⟩] scope gpos) X.env) Q' X.xe s := by
  refine wpAny_GeneratorExp_walksQTD hr.hd S.co (closure_ok S.free) S.cell S.dot S.loc S.loc2 S.ne S.kind (by have := hr.dp; omega) ?_ hs
  refine Call_ (ld_blt I hg hm PyProof.Rows.boot_zip (PyProof.Rows.callWith_type1 (thn (ha.run pos pins s σ H _ I h) fun us s1 ⟨vs, H1, I1, r1, q1⟩ => ?_) hz1 hz2))
  obtain ⟨l1, l2, ws, zs, RR, rfl, hyl1, hyl2, hCn, ⟨ps, hP, ht⟩, q1⟩ := hp vs H1 q1
  cases r1 with
  | cons r rr =>
  cases rr with
  | cons r' rr =>
  cases rr
  cases r
  cases r'
  obtain ⟨its, rv, hl, _⟩ := I1.list hyl1
  obtain ⟨its2, rv2, hl2, _⟩ := I1.list hyl2
  have hIL := hl.isList
  have hIL2 := hl2.isList
  have hlen : its.length = ws.length := rv.length.symm
  have hlen2 : its2.length = zs.length := rv2.length.symm
  refine call_zip_2 hIL hIL2 fun h2 hz hTI hTO hi1 hi2 hsz2 hk2 => wpAny_pyIter_zip hz ?_
  have lt1 : @LT.lt Nat _ l1 s1.heap.objs.size := by
    obtain ⟨_, e, _⟩ := _root_.id hIL
    exact Heap.lt_size e
  have lt2 : @LT.lt Nat _ l2 s1.heap.objs.size := by
    obtain ⟨_, e, _⟩ := _root_.id hIL2
    exact Heap.lt_size e
  have hPs : s1.heap.get? P = some { cls := .none, data := .fields ps } := I1.hok P _ hP
  have hPlt : @LT.lt Nat _ P s1.heap.objs.size := Heap.lt_size hPs
  have hP2 : h2.get? P = some { cls := .none, data := .fields ps } := hk2 _ _ hPs
  have cd : PySem.W.CodeHd h2 c P := TB.code.keeps fun b u e => hk2 _ _ (I1.bk b u e)
  have lim2 : h2.NoLimit := I1.nolimit.keeps hk2
  generalize hN : s1.heap.objs.size = N at *
  have D : ZipApart (N + 4) (N + 2) (N + 3) N (N + 1) l1 l2 := by constructor <;> exact fun e => by have e : @Eq Nat _ _ := e; omega
  have cont : ∀ (code : Value) (h3 : Heap) (tk : Nat) (ps' : Array Value), Heap.ExtBut P h2 h3 → h2.objs.size ≤ h3.objs.size → h3.get? P = some { cls := .none, data := .fields ps' } → (∃ more, ps' = ps ++ more) → TriplesOk ps'.toList →
      wpAny (model X.prog X.w) X.A (builtinsFor X.env.globals X.env.builtins) (fun bi s₄ =>
        ∃ Ia fp wr n₀ Pt St₀ Mid pz F, Value.ref (N + 4) = .ref Ia ∧ (∀ A' : Around, A'.handled = none → WalksU X.prog X.w A' Ia fp wr n₀ Pt St₀ Mid) ∧ (∀ i vals, Pt i vals → ∃ va vb, vals = #[va, vb]) ∧ St₀ 0 s₄.heap ∧ (∀ b ∈ fp, b < s₄.heap.objs.size) ∧ s₄.heap.NoLimit ∧ cStatics ∉ wr ∧
          (∀ href : Heap, (∀ b o, s₄.heap.get? b = some o → href.get? b = some o) →
            QuietGenTD X.prog X.w (genEnv scope (cloFrom X.env.cells scope.names []) s₄.heap.objs.size code bi X.env) x y [] elt (List.range s₄.heap.objs.size) wr Pt pz F href (X.A.depth + 1) (X.A.units + 8)) ∧
          (∀ a h₅ tk gs, gs.bare = true → s₄.heap.objs.size < a → h₅.objs.size = a + 1 → (∀ b o, s₄.heap.get? b = some o → h₅.get? b = some o) →
            WalksS X.prog X.w X.A.in4 a (a :: s₄.heap.objs.size :: List.range s₄.heap.objs.size) (s₄.heap.objs.size :: wr) (GenOnlyQ s₄.gens.size) (passing pz n₀ 0).length
              (fun j y => ∃ i, (passing pz n₀ 0)[j]? = some i ∧ F i y) (GenAt X.prog X.w X.A.in4 a s₄.gens.size s₄.heap.objs.size (List.range s₄.heap.objs.size) wr pz n₀ F) →
            GenAt X.prog X.w X.A.in4 a s₄.gens.size s₄.heap.objs.size (List.range s₄.heap.objs.size) wr pz n₀ F 0 { s₄ with gens := s₄.gens.push gs, toks := tk, heap := h₅ } →
            Q' (.ref a) { s₄ with gens := s₄.gens.push gs, toks := tk, heap := h₅ })) X.xe { s1 with heap := h3, toks := tk } := by
    intro code h3 tk ps' hx hsz hP3 hmore ht3
    obtain ⟨bm, ob, e1, e2, e3, e4, e5, e6, e7, e8⟩ := TB.bm
    have hcP : cStatics ≠ P := fun e => by
      obtain ⟨_, hns, _⟩ := I1.nolimit
      obtain ⟨o', es, ep, ho, hd, _⟩ := hns
      rw [e, hPs] at ho
      cases ho
      cases hd
    have hcl : @LT.lt Nat _ cStatics s1.heap.objs.size := let ⟨_, hns, _⟩ := I1.nolimit; hns.lt
    have keep3 : ∀ b u, b ≠ P → s1.heap.get? b = some u → h3.get? b = some u := fun b u hb e => hx b u hb (hk2 _ _ e)
    refine wpAny_builtinsFor (m := X.mg) (by rw [I1.ok.glob]; exact ((I1.mod.glob.keeps I1.bk).keeps hk2).extBut hx TB.gP) e1 e2 (keep3 _ _ e4 (I1.bk _ _ e5)) e6 e7 e8 ?_
    have nlst : ∀ {l its}, s1.heap.IsList l its → l ≠ P := fun {l its} h z => by
      obtain ⟨_, e, hc1, _, hd1⟩ := h
      rw [z, hPs] at e
      cases e
      cases hd1
    have hIL3 : h3.IsList l1 its.toArray := by
      have n := nlst hIL
      obtain ⟨ob, e, r⟩ := _root_.id hIL
      exact ⟨ob, keep3 _ _ n e, r⟩
    have hIL4 : h3.IsList l2 its2.toArray := by
      have n := nlst hIL2
      obtain ⟨ob, e, r⟩ := _root_.id hIL2
      exact ⟨ob, keep3 _ _ n e, r⟩
    have nP : ∀ j : Nat, N + j ≠ P := fun j e => by have e : @Eq Nat _ _ := e; omega
    have hz3 : IsZip h3 (N + 4) (N + 2) (N + 3) .none := hx _ _ (nP 4) hz
    have hTI3 : IsPair h3 (N + 2) (.ref N) (.ref (N + 1)) := hx _ _ (nP 2) hTI
    have hTO3 : IsPair h3 (N + 3) .none .none := hx _ _ (nP 3) hTO
    have hi13 : h3.IsListIter N l1 0 := hi1.at fun u e => hx _ u (nP 0) e
    have hi23 : h3.IsListIter (N + 1) l2 0 := hi2.at fun u e => hx _ u (nP 1) e
    have sz3 : N + 5 ≤ h3.objs.size := by omega
    refine ⟨N + 4, _, _, _, _, _, _, (fun _ => true), (fun i y => RR i y), rfl, (fun A' hA => (WalksT.zip2 hA (N + 4) (N + 2) (N + 3) N (N + 1) l1 l2 D its.toArray its2.toArray).toU), ?_, ⟨hz3, hTI3, ⟨_, _, hTO3⟩, hi13, hi23, hIL3, hIL4⟩, ?_, lim2.extBut hx hcP, ?_, ?_, ?_⟩
    · rintro i vals ⟨a, b, _, _, rfl⟩
      exact ⟨a, b, rfl⟩
    · intro b hb
      have hb : b = N + 4 ∨ b = N + 2 ∨ b = N + 3 ∨ b = N ∨ b = N + 1 ∨ b = l1 ∨ b = l2 := by simpa using hb
      have hb := ans7 hb
      show @LT.lt Nat _ b h3.objs.size
      omega
    · intro z
      have z : cStatics = N + 4 ∨ cStatics = N + 3 ∨ cStatics = N ∨ cStatics = N + 1 := by simpa using z
      have z := ans4 z
      omega
    · intro href hhref
      refine ⟨fun A' E' i va vb s₂ m₂ hA _ _ hPv hn hma hmb hk => ?_, fun A' E' i va vb s₂ m₂ hA hD hU hPv hp hn hma hmb hk => ?_⟩
      · simp only [List.forIn_nil]
        exact wpAny_pure ⟨rfl, GxR.keeps_refl _⟩
      · obtain ⟨va', vb', hva, hvb, ev⟩ := hPv
        obtain ⟨rfl, rfl⟩ : va = va' ∧ vb = vb' := by
          have := congrArg Array.toList ev
          simp at this
          exact this
        have hv2 : its[i]? = some va := by simpa using hva
        have hv3 : its2[i]? = some vb := by simpa using hvb
        have j1 : i < its.length := (List.getElem?_eq_some_iff.mp hv2).1
        have j2 : i < its2.length := (List.getElem?_eq_some_iff.mp hv3).1
        obtain ⟨w, hw⟩ : ∃ w, ws[i]? = some w := ⟨ws[i]'(by omega), List.getElem?_eq_getElem _⟩
        obtain ⟨w2, hw2⟩ : ∃ w, zs[i]? = some w := ⟨zs[i]'(by omega), List.getElem?_eq_getElem _⟩
        obtain ⟨u, hu, ru⟩ := rv.get hw
        obtain ⟨u2, hu2, ru2⟩ := rv2.get hw2
        rw [hv2] at hu
        cases hu
        rw [hv3] at hu2
        cases hu2
        have all1 : ∀ b o, b ≠ P → s1.heap.get? b = some o → s₂.heap.get? b = some o := fun b o hb e => by
          have hl : @LT.lt Nat _ b s1.heap.objs.size := Heap.lt_size e
          refine hk b (List.mem_range.mpr (show @LT.lt Nat _ b h3.objs.size by omega)) (fun z => ?_) o (hhref b o (keep3 b o hb e))
          have z : b = N + 4 ∨ b = N + 3 ∨ b = N ∨ b = N + 1 := by simpa using z
          have z := ans4 z
          omega
        have bs : ∀ b o, X.base.get? b = some o → s₂.heap.get? b = some o := fun b o e => all1 b o (fun z => by
          have := (I1.bs b o e).2
          rw [z, hP] at this
          cases this) (I1.bk b o e)
        refine hel pins σ H1 s1 I1 ⟨ps, hP⟩ w w2 (RR i) (hCn i w w2 hw hw2) va vb ru ru2 h3.objs.size code A' hA hD hU E' s₂ ⟨⟨?_, ?_, ?_, ?_⟩, all1, m₂, hn, hma, hmb⟩
        · exact I1.mod.kin.keeps bs
        · exact I1.mod.glob.keeps bs
        · obtain ⟨mb, a, b⟩ := I1.mod.blt
          exact ⟨mb, a.keeps bs, b⟩
        · exact I1.mod.nolimit.keeps bs
    · intro g h5 tk5 gs hgb hag hsz5 hk5 W5 hgat
      simp only [GxR.passing_true, List.length_range] at W5
      have hn5 : min its.toArray.size its2.toArray.size = min ws.length zs.length := by rw [List.size_toArray, List.size_toArray, hlen, hlen2]
      rw [hn5] at W5 hgat
      refine hQ ws zs RR H1 g _ q1 ⟨_, _, _, _, _, W5, hgat, ?_, ?_, fun s' hm => ?_⟩
      · intro b hb
        show @LT.lt Nat _ b h5.objs.size
        have hag : @LT.lt Nat _ h3.objs.size g := hag
        have hsz5 : @Eq Nat h5.objs.size (g + 1) := hsz5
        rcases List.mem_cons.mp hb with z | z
        · rw [z, hsz5]; exact Nat.lt_succ_self _
        · rcases List.mem_cons.mp z with z | z
          · have z : @Eq Nat b h3.objs.size := z
            omega
          · have z : @LT.lt Nat _ b h3.objs.size := List.mem_range.mp z
            omega
      · intro j v hv
        obtain ⟨i, hij, hF⟩ := hv
        obtain ⟨hj, ej⟩ := List.getElem?_eq_some_iff.mp hij
        rw [List.getElem_range] at ej
        subst ej
        rw [List.length_range] at hj
        exact ⟨hj, hF⟩
      · obtain ⟨more, em⟩ := hmore
        have nwr : ∀ b u, s1.heap.get? b = some u → b ∉ h3.objs.size :: [N + 4, N + 3, N, N + 1] := fun b u e hb => by
          have hl : @LT.lt Nat _ b s1.heap.objs.size := Heap.lt_size e
          have hb : b = h3.objs.size ∨ b = N + 4 ∨ b = N + 3 ∨ b = N ∨ b = N + 1 := by simpa using hb
          have hb := ans5 hb
          omega
        have J := GxR.inv_tab (more := more) (h' := s'.heap) (g' := s'.gens) (d' := s'.drawn) (t' := s'.toks) I1 hP (fun b u hb e => hm.heap b u (nwr b u e) (hk5 b u (keep3 b u hb e)))
          (by rw [← em]; exact hm.heap P _ (nwr P _ hPs) (hk5 P _ hP3)) (AllBare.movedS (I1.bare.push hgb) hm)
        rw [GxR.sh_eta s1 s' hm.os] at J
        refine ⟨upd H1 P (.tbl (ps ++ more)), ⟨⟨ps ++ more, upd_same, by rw [← em]; exact ht3⟩, fun b hb => upd_ne hb⟩, J⟩
  refine ⟨lim2, ?_⟩
  cases hf : codeAmong gpos ps.toList with
  | none =>
    refine wpAny_genexprCodeX hcode (cd.code hP2 ht) (cd.tab hP2) hf fun c' h' tk hx hge hlt hco' _ htab' _ => ?_
    obtain ⟨o1, vs, f1, tf, fl, tg, inF, tx, tt, op, _, _, _, _, _, _, _, _, _, htr, _⟩ := hco'
    exact cont _ h' tk _ hx (Nat.le_trans hge (Nat.le_of_lt hlt)) htab'.2 ⟨_, rfl⟩ htr
  | some cv =>
    refine wpAny_genexprCode_hit hcode (cd.code hP2 ht) hf ?_
    exact cont cv h2 s1.toks ps (Heap.ExtBut.refl _ _) (Nat.le_refl _) hP2 ⟨#[], by simp⟩ ht
theorem kind_sumF : builtinKind "sum" = none := by decide +kernel
/-- sum(elt for x, y in zip(a, b)) -/
def tSumZ (K : PySem.W.Frag) (P : Addr) (Cn : L2.St → Hp → V → V → (Value → Prop) → Prop) (ta : TA) : TE := fun σ H Q => ta σ H fun vs H1 => ∃ (l1 l2 : Addr) (ws zs : List V) (pb : V → V → Int), vs = [.ref l1, .ref l2] ∧ SqL K H1 l1 ws ∧ SqL K H1 l2 zs ∧
  (∀ (i : Nat) w z, ws[i]? = some w → zs[i]? = some z → Cn σ H1 w z (fun u => ∃ t, u = .int (pb w z) t)) ∧ GxR.TabG H1 P ∧ ∀ H2, GxR.Tabbed P H1 H2 → Q (.int (List.zipWith pb ws zs).sum) H2
theorem pe_sumZ {c P : Addr} {elt e1 e2 : Expr} {x y : Str} {px py pt p p2 pos pos2 gpos : Pos} {kt : Nat} {scope : Scope} {ta : TA} {k : Nat} {Cn : L2.St → Hp → V → V → (Value → Prop) → Prop}
    (hr : Room k X.A) (hg : Gl X "sum") (hm : X.mg "sum" = none) (hg2 : Gl X "zip") (hm2 : X.mg "zip" = none) (TB : GxR.TabB X.base X.mg c P) (hcode : X.env.code = .ref c) (S : GenS2 X.env scope x y) (ha : PA X [e1, e2] ta) (hel : EltZ X scope x y P elt Cn)
    (hs : ∀ v, genFold (.Call (.Name "zip" p2) [e1, e2] [] pos2) X.env v = pure v)
    (hCn : ∀ σ H w z R R', Cn σ H w z R → (∀ u, R u → R' u) → Cn σ H w z R' := by intros; assumption)
    (hz1 : starEach [e1, e2] X.env = (false, eval e1 X.env) :: starEach [e2] X.env := by rfl) (hz2 : (backTo pos2 (starEach [e2] X.env)).any (·.1) = false := by rfl)
    (he : starEach [.GeneratorExp elt [⟨.Tuple [.Name x px, .Name y py] kt pt, .Call (.Name "zip" p2) [e1, e2] [] pos2, [], 0⟩] scope gpos] X.env = (false, eval (.GeneratorExp elt [⟨.Tuple [.Name x px, .Name y py] kt pt, .Call (.Name "zip" p2) [e1, e2] [] pos2, [], 0⟩] scope gpos) X.env) :: starEach [] X.env := by rfl) :
    PE X (.Call (.Name "sum" p) [.GeneratorExp elt [⟨.Tuple [.Name x px, .Name y py] kt pt, .Call (.Name "zip" p2) [e1, e2] [] pos2, [], 0⟩] scope gpos] [] pos) (tSumZ X.K P Cn ta) := by
  refine ⟨fun pins s σ H Q I h => ?_⟩
  refine wpAny_Call_Name_kw (ld_blt I hg hm (by with_unfolding_all rfl : bootBuiltins "sum" = some (.builtin "sum")) ?_)
  refine PyProof.Rows.callWith_builtin1 ?_ he (by rfl)
  rw [he]
  show wpAny _ _ (spliced ((false, eval (.GeneratorExp elt [⟨.Tuple [.Name x px, .Name y py] kt pt, .Call (.Name "zip" p2) [e1, e2] [] pos2, [], 0⟩] scope gpos) X.env) :: backTo pos (starEach [] X.env))) _ _ s
  refine Calls.spliced_cons (gen_zip (Rst := fun ws zs RR H1 => ∃ pb : V → V → Int, RR = (fun i u => ∀ w z, ws[i]? = some w → zs[i]? = some z → ∃ t, u = .int (pb w z) t) ∧ ∀ H2, GxR.Tabbed P H1 H2 → Q (.int (List.zipWith pb ws zs).sum) H2) hr hg2 hm2 TB hcode S ha hel hs hz1 hz2 I h ?_ fun ws zs RR H1 g s5 hR hG => ?_)
  · rintro vs H1 ⟨l1, l2, ws, zs, pb, rfl, h1, h2, hC, hT, hq⟩
    refine ⟨l1, l2, ws, zs, _, rfl, h1, h2, fun i w z hw hz => hCn _ _ _ _ _ _ (hC i w z hw hz) fun u hu w' z' hw' hz' => ?_, hT, pb, rfl, hq⟩
    rw [hw] at hw'
    rw [hz] at hz'
    cases hw'
    cases hz'
    exact hu
  obtain ⟨fp, wr, G, F, St, W, hst, hfp, hF, hI⟩ := hG
  obtain ⟨pb, eRR, hq⟩ := hR
  refine Calls.spliced_nil ?_
  have W := W.in4_1
  have el : (List.zipWith pb ws zs).length = min ws.length zs.length := List.length_zipWith ..
  refine call_sum_walkAnyS (W.self 0 _ _ _ hst ⟨g, fp, wr, G, _, F, St, fun i => (List.zipWith pb ws zs).getD i 0, rfl, W, hst, hfp, ?_, fun s' t' hmv => ?_⟩)
  · intro j v hv
    obtain ⟨hj, z⟩ := hF j v hv
    have j1 : j < ws.length := Nat.lt_of_lt_of_le hj (Nat.min_le_left ..)
    have j2 : j < zs.length := Nat.lt_of_lt_of_le hj (Nat.min_le_right ..)
    rw [eRR] at z
    obtain ⟨t, et⟩ := z _ _ (List.getElem?_eq_getElem j1) (List.getElem?_eq_getElem j2)
    refine ⟨t, ?_⟩
    show _ = Value.int ((List.zipWith pb ws zs).getD j 0) t
    rw [et, List.getD_eq_getElem?_getD, List.getElem?_eq_getElem (by rw [el]; exact hj), List.getElem_zipWith]
    rfl
  · obtain ⟨H2, hT, J⟩ := hI s' hmv
    rw [preSum_getD, ← el, List.take_length]
    exact ⟨.int _, H2, J, ⟨t', rfl⟩, hq H2 hT⟩
/-- abs(x - y) -/
theorem el_absSub {P : Addr} {scope : Scope} {x y : Str} {p1 p2 p3 p4 p5 : Pos} (gl : X.env.globals = mainGlobals) (hk : scope.kind = .function) (k1 : scope.names.lookup x = some .local) (k2 : scope.names.lookup y = some .local) (k3 : scope.names.lookup ("abs" : Str) = some .globalImplicit) (hm : X.mg "abs" = none)
    (d1 : (x == ("__debug__" : Str)) = false := by decide) (d2 : (y == ("__debug__" : Str)) = false := by decide) :
    EltZ X scope x y P (.Call (.Name "abs" p1) [.BinOp (.Name x p2) .Sub (.Name y p3) p4] [] p5) (fun _ _ wa wb R => ∃ i j : Int, wa = .int i ∧ wb = .int j ∧ ∀ t, R (.int (if i - j < 0 then -(i - j) else i - j) t)) := by
  rintro pins σ H s I hT wa wb R ⟨i, j, rfl, rfl, hR⟩ ua ub ra rb C code A h1 h2 h3
  obtain ⟨ti, rfl⟩ := (show ∃ t, ua = Value.int i t from ra)
  obtain ⟨tj, rfl⟩ := (show ∃ t, ub = Value.int j t from rb)
  have ok := qx2Of_ok (X := X) gl hk (x := x) (y := y) (P := P) (h1 := s.heap) (C := C) (code := code) (u := .int i ti) (v := .int j tj) (A := A)
  have ex : QE (qx2Of X scope x y P s.heap C code (.int i ti) (.int j tj) A) (.Name x p2) (· = .int i ti) := q_loc ok k1 (fun h g => let ⟨m, a, b, c⟩ := g.2.2; ⟨m, a, b⟩) rfl d1
  have ey : QE (qx2Of X scope x y P s.heap C code (.int i ti) (.int j tj) A) (.Name y p3) (· = .int j tj) := q_loc ok k2 (fun h g => let ⟨m, a, b, c⟩ := g.2.2; ⟨m, a, c⟩) rfl d2
  intro E s' g
  obtain ⟨mb, b1, b2⟩ := (ok.gd _ g).blt
  refine wpAny_Call_Name_kw (Calls.Name_function_global ok.kind k3 (Calls.loadGlobal_builtin (by rw [ok.glob]; exact (ok.gd _ g).ns) hm (by rw [ok.blt]; exact b1) ((b2 _ (by decide)).trans (by with_unfolding_all rfl : bootBuiltins "abs" = some (.builtin "abs"))) ?_) (by decide))
  have st1 : starEach [.BinOp (.Name x p2) .Sub (.Name y p3) p4] (qx2Of X scope x y P s.heap C code (.int i ti) (.int j tj) A).env = (false, eval (.BinOp (.Name x p2) .Sub (.Name y p3) p4) (qx2Of X scope x y P s.heap C code (.int i ti) (.int j tj) A).env) :: starEach [] (qx2Of X scope x y P s.heap C code (.int i ti) (.int j tj) A).env := by rfl
  refine PyProof.Rows.callWith_builtin1 ?_ st1 (by rfl)
  rw [st1]
  refine Calls.spliced_cons (wpAny_BinOp (thn (ex E s' g) fun v1 s1 ⟨e1, kk1⟩ => thn (ey E s1 (ok.kp _ _ g (kst kk1))) fun v2 s2 ⟨e2, kk2⟩ => ?_))
  subst e1 e2
  refine PyProof.Rows.sub_int ?_
  refine Calls.spliced_nil ?_
  refine call_abs_int fun u tk => ⟨hR u, ktr (ktr kk1 kk2) ?_⟩
  exact ⟨s2.heap, tk, rfl, fun _ _ e => e⟩
end
end Ap


/-! K39: x[i] += e in lists, truths taken from one another, `in range(..)`, dicts with tuples as keys, tuple(list), slices of tuples. -/
namespace Ap
open PySem L2 PySem.Spec PyProof.Rows
section
variable {X : Cx}
theorem pget_list : PGet X (rIxL X.K) := by
  intro pins s σ H x y v u Q I rx ry h
  obtain ⟨p, xs, i, z, rfl, rfl, hq, he, q⟩ := h
  cases rx
  obtain ⟨t, rfl⟩ := ry
  obtain ⟨its, r, pl, hz⟩ := I.list hq
  obtain ⟨j, h1, h2, h3, h4, h5⟩ := atI_get he
  obtain ⟨w, ew, rw'⟩ := r.get h2
  have hl := r.length
  have hn := line63
  have fin : EP X pins σ Q w s := ⟨z, H, I, rw', q⟩
  by_cases h0 : 0 ≤ i
  · have hj : i.toNat = j := by
      rw [seqIndex_of h0 h5] at h1
      exact Option.some.inj h1
    exact wpAny_getItem_list pl.isList h0 (by omega) (by rw [hj]; simpa using ew) fin
  · have hj : (i + (its.toArray.size : Int)).toNat = j := by
      rw [seqIndex_neg (by omega) h4] at h1
      rw [List.size_toArray, ← hl]
      exact Option.some.inj h1
    exact wpAny_getItem_list_neg pl.isList (by omega) (by rw [List.size_toArray] <;> omega) (by omega) (by rw [hj]; simpa using ew) fin
def bi (b : Bool) : Int := if b = true then 1 else 0
def rSubB : R2 := fun x y H Q => ∃ p q, x = .bl p ∧ y = .bl q ∧ Q (.int (bi p - bi q)) H
theorem op_subB : OpR X (binaryOp .Sub) rSubB := by
  intro pins s σ H x y v u Q I rx ry h
  obtain ⟨p, q, rfl, rfl, hq⟩ := h
  obtain rfl : v = Value.bool p := rx
  obtain rfl : u = Value.bool q := ry
  refine sub_bool ⟨.int (bi p - bi q), H, I.tok _, ⟨s.toks, ?_⟩, hq⟩
  cases p <;> cases q <;> rfl
def rRng : List V → Hp → VK → Prop := fun vs H Q => ∃ i j, vs = [V.int i, V.int j] ∧ ∀ p, H p = none → Q (.ref p) (upd H p (.rng i j))
theorem cr_rng2 : CallR X (.type "range") rRng := cr_range2
def rInRng : R2 := fun x y H Q => ∃ i a lo hi, x = V.int i ∧ y = V.ref a ∧ H a = some (.rng lo hi) ∧ Q (.bl (decide (lo ≤ i ∧ i < hi))) H
theorem op_inRng : OpR X (compareOp .In) rInRng := op_in_rng
def rTupL (K : PySem.W.Frag) : List V → Hp → VK → Prop := fun vs H Q => ∃ p ys, vs = [.ref p] ∧ SqL K H p ys ∧ ∀ l, H l = none → Q (.ref l) (upd H l (.tup ys))
theorem cr_tupL : CallR X (.type "tuple") (rTupL X.K) := by
  intro pins s σ H vs us Q I r h
  obtain ⟨p, ys, e, hs, q⟩ := h
  exact call_tuple_of pins s σ H vs us Q I r ⟨p, ys, e, .inl ⟨hs, q⟩⟩
/-- {k: v}, k a tuple -/
def fDispT (p : Addr) (Q : VK) : List (V × V) → Hp → Prop := fun ps H2 => ∃ x y b ks, ps = [(x, y)] ∧ x = .ref b ∧ H2 b = some (.tup (ks.map kV)) ∧ H2 p = some (.dT []) ∧ Q (.ref p) (upd H2 p (.dT [(ks, y)]))
def tDispT (tk tv : TE) : TE := fun σ H Q => ∀ p, H p = none → tPairs [(tk, tv)] σ (upd H p (.dT [])) (fDispT p Q)
theorem pe_dispT {pos : Pos} {k v : Expr} {tk tv : TE} (hu : X.A.units + 1 < cLine) (hk : PE X k tk) (hv : PE X v tv) : PE X (.Dict [some k] [v] pos) (tDispT tk tv) := by
  refine ⟨fun pins s σ H Q I q => ?_⟩
  have hn := I.hok.fresh (Nat.le_refl s.heap.objs.size)
  have I1 := I.laid (a := s.heap.objs.size) (o := .dT []) (h' := s.heap.push { cls := .type "dict", data := .dict #[] }) (t' := s.toks) (fun _ _ q => Heap.get?_push_of_some _ q) (Nat.le_refl _) (dt_empty s.heap I.big)
  refine wpAny_Dict_any (by rfl) (by rfl) (by simp) (by show 1 ≤ 15; decide) ?_
  refine thn ((pps_cons hk hv pps_nil).run pins _ σ _ _ I1 (q _ hn)) fun ws s2 h => ?_
  obtain ⟨ps, H2, I2, rel, x, y, b, ks, rfl, rfl, eb, ep, q2⟩ := h
  · cases rel with
    | cons h t =>
      cases t
      rename_i pr
      obtain ⟨u1, u2⟩ := pr
      obtain ⟨r1, r2⟩ := h
      obtain rfl : u1 = Value.ref b := r1
      obtain ⟨z, hd, xs, rl, dd⟩ := dt_of I2.hok ep
      cases rl
      unfold storeAll
      rw [List.forIn_cons]
      refine wpAny_bind (wpAny_bind (wpAny_dictSet_heap (knd := tupleKind (mixKind X.prog X.w)) (show X.A.units < cLine by omega) (key_of I2.hok eb) dd (fun h' dd' hs => wpAny_pure ?_) (by decide)))
      show wpAny (model X.prog X.w) X.A (forIn [] PUnit.unit fun (x : Value × Value) (_ : PUnit) => (do dictSet s.heap.objs.size x.1 x.2; pure (ForInStep.yield PUnit.unit) : Sem (ForInStep PUnit))) _ _ _
      rw [List.forIn_nil]
      refine wpAny_pure ⟨.ref s.heap.objs.size, _, ?_, rfl, q2⟩
      obtain ⟨q0, es, epo, hq, h2, h3, h4, _, h5⟩ := dd'
      refine d_write I2 (by rw [ep]; exact True.intro) hs ⟨q0, hq⟩ ⟨?_, hd, _, ((show KT H2 [] [] from .nil).put ks eb r2).keeps fun c ys ec => ?_, q0, es, epo, hq, h2, h3, h4, h5⟩
      · show 1 ≤ sizeLine
        decide
      · rw [upd_ne (ne_of ec ep (fun z => nomatch z))]
        exact ec
end
theorem gs2_of {qual : Str} {sc scope : Scope} {L f : Addr} {cdv : Value} {x y : Str} (k : scope.kind = .function) (co : scope.isCoroutine = false) (ce : ∀ y ∈ scope.names, y.2 ≠ .cell) (dot : scope.names.lookup (".0" : Str) = some NameKind.local) (loc : scope.names.lookup x = some .local) (loc2 : scope.names.lookup y = some .local) (ne : x ≠ y)
    (fr : ∀ y ∈ scope.names, y.2 = .free → sc.names.lookup y.1 = some .cell) : GenS2 (envOfC qual sc L f cdv) scope x y :=
  ⟨k, co, ce, dot, loc, loc2, ne, fun y hy hf => Option.isSome_iff_exists.mp (PySem.W.cellsFrom_some _ _ _ (.inl (fr y hy hf)))⟩
/-! ### steps -/
section
variable {K : PySem.W.Frag} {σ : L2.St} {H : Hp} {Q : VK} {x y z : V} {tk tv to ti te td ty : TE} {tget : V → V → Hp → VK → Prop} {tip : TIp} {tset : TSet} {D : Ends}
instance i_subB {p q : Bool} : St (rSubB (.bl p) (.bl q) H Q) (Q (.int (bi p - bi q)) H) := ⟨fun h => ⟨p, q, rfl, rfl, h⟩⟩
instance i_rng {i j : Int} : St (rRng [.int i, .int j] H Q) (∀ p, H p = none → Q (.ref p) (upd H p (.rng i j))) := ⟨fun h => ⟨i, j, rfl, h⟩⟩
theorem g_inRng {i lo hi : Int} {a : Addr} (e : H a = some (.rng lo hi)) (h : Q (.bl (decide (lo ≤ i ∧ i < hi))) H) : rInRng (.int i) (.ref a) H Q := ⟨i, a, lo, hi, rfl, rfl, e, h⟩
theorem g_tupL {p : Addr} {ys : List V} (e : H p = some (.lst ys)) (h : ∀ l, H l = none → Q (.ref l) (upd H l (.tup ys))) : rTupL K [.ref p] H Q := ⟨p, ys, rfl, SqL.of e, h⟩
def kDp1 (tv : TE) (p : Addr) (σ : L2.St) (Q : VK) : VK := fun x H1 => tv σ H1 fun y H2 => fDispT p Q [(x, y)] H2
def kDp2 (p : Addr) (x : V) (Q : VK) : VK := fun y H2 => fDispT p Q [(x, y)] H2
theorem g_dispT (h : ∀ p, H p = none → tk σ (upd H p (.dT [])) (kDp1 tv p σ Q)) : tDispT tk tv σ H Q := h
instance i_kDp1 {p : Addr} : St (kDp1 tv p σ Q x H) (tv σ H (kDp2 p x Q)) := ⟨id⟩
theorem g_kDp2 {p b : Addr} {ks : List Key} (eb : H b = some (.tup (ks.map kV))) (ep : H p = some (.dT [])) (h : Q (.ref p) (upd H p (.dT [(ks, y)]))) : kDp2 p (.ref b) Q y H := ⟨_, y, b, ks, rfl, rfl, eb, ep, h⟩
def kDG2 (a : Addr) (Q : VK) : VK := fun y H2 => ∃ o, DGet H2 a y o ∧ Q (o.getD .non) H2
def kDG1 (ty : TE) (σ : L2.St) (Q : VK) : VK := fun x H1 => ∃ a, x = .ref a ∧ IsD H1 a ∧ ty σ H1 (kDG2 a Q)
instance i_dget1 : St (tDGet1 td ty σ H Q) (td σ H (kDG1 ty σ Q)) := ⟨id⟩
theorem g_kDG1T {a : Addr} {kvs : List (List Key × V)} (e : H a = some (.dT kvs)) (h : ty σ H (kDG2 a Q)) : kDG1 ty σ Q (.ref a) H := ⟨a, rfl, .inr ⟨kvs, Rd.of e⟩, h⟩
theorem g_kDG1 {a : Addr} {kvs : List (Key × V)} (e : H a = some (.dK kvs)) (h : ty σ H (kDG2 a Q)) : kDG1 ty σ Q (.ref a) H := ⟨a, rfl, .inl ⟨kvs, Rd.of e⟩, h⟩
theorem g_kDG2T {a b : Addr} {kvs : List (List Key × V)} {k : List Key} (e : H a = some (.dT kvs)) (eb : H b = some (.tup (k.map kV))) (h : Q ((valV kvs k).getD .non) H) : kDG2 a Q (.ref b) H := ⟨_, DGet.t e eb, h⟩
theorem g_getT {a b : Addr} {kvs : List (List Key × V)} {k : List Key} (e : H a = some (.dT kvs)) (eb : H b = some (.tup (k.map kV))) (hv : valV kvs k = some z) (h : Q z H) : kDf (fGet Q) (.ref a) (.ref b) H := ⟨a, z, rfl, by rw [← hv]; exact DGet.t e eb, h⟩
def kAu1 (ti te : TE) (tget : V → V → Hp → VK → Prop) (tip : TIp) (tset : TSet) (σ : L2.St) (R : L2.St → Hp → Prop) : VK := fun o H1 => ti σ H1 fun i H2 => tget o i H2 fun x H3 => te σ H3 fun y H4 => tip x y H4 fun z H5 => tset o i z H5 fun H6 => R σ H6
def kAu2 (te : TE) (tget : V → V → Hp → VK → Prop) (tip : TIp) (tset : TSet) (o : V) (σ : L2.St) (R : L2.St → Hp → Prop) : VK := fun i H2 => tget o i H2 fun x H3 => te σ H3 fun y H4 => tip x y H4 fun z H5 => tset o i z H5 fun H6 => R σ H6
def kAu3 (te : TE) (tip : TIp) (tset : TSet) (o i : V) (σ : L2.St) (R : L2.St → Hp → Prop) : VK := fun x H3 => te σ H3 fun y H4 => tip x y H4 fun z H5 => tset o i z H5 fun H6 => R σ H6
def kAu4 (tip : TIp) (tset : TSet) (o i x : V) (σ : L2.St) (R : L2.St → Hp → Prop) : VK := fun y H4 => tip x y H4 fun z H5 => tset o i z H5 fun H6 => R σ H6
def kAu5 (tset : TSet) (o i : V) (σ : L2.St) (R : L2.St → Hp → Prop) : VK := fun z H5 => tset o i z H5 (kHp R σ)
instance i_augS : St (tAugS to ti te tget tip tset D σ H) (to σ H (kAu1 ti te tget tip tset σ D.nx)) := ⟨id⟩
instance i_kAu1 {R : L2.St → Hp → Prop} : St (kAu1 ti te tget tip tset σ R x H) (ti σ H (kAu2 te tget tip tset x σ R)) := ⟨id⟩
instance i_kAu2 {R : L2.St → Hp → Prop} : St (kAu2 te tget tip tset x σ R y H) (tget x y H (kAu3 te tip tset x y σ R)) := ⟨id⟩
instance i_kAu3 {o i : V} {R : L2.St → Hp → Prop} : St (kAu3 te tip tset o i σ R x H) (te σ H (kAu4 tip tset o i x σ R)) := ⟨id⟩
instance i_kAu4 {o i : V} {R : L2.St → Hp → Prop} : St (kAu4 tip tset o i x σ R y H) (tip x y H (kAu5 tset o i σ R)) := ⟨id⟩
instance i_kAu5 {o i : V} {R : L2.St → Hp → Prop} : St (kAu5 tset o i σ R z H) (tset o i z H (kHp R σ)) := ⟨id⟩
theorem g_slT {p : Addr} {xs : List V} {lo hi : Option Int} (e : H p = some (.tup xs)) (hw : ¬ (HT.sIx xs.length 0 lo = 0 ∧ HT.sIx xs.length xs.length hi = xs.length)) (h : ∀ q, H q = none → Q (.ref q) (upd H q (.tup (cutV xs lo hi)))) : rSlT K (.ref p) lo hi H Q := ⟨p, xs, rfl, SqT.of e, hw, h⟩
def kSz (K : PySem.W.Frag) (P : Addr) (Cn : L2.St → Hp → V → V → (Value → Prop) → Prop) (σ : L2.St) (Q : VK) : LK := fun vs H1 => ∃ (l1 l2 : Addr) (ws zs : List V) (pb : V → V → Int), vs = [.ref l1, .ref l2] ∧ SqL K H1 l1 ws ∧ SqL K H1 l2 zs ∧
  (∀ (i : Nat) w z, ws[i]? = some w → zs[i]? = some z → Cn σ H1 w z (fun u => ∃ t, u = .int (pb w z) t)) ∧ GxR.TabG H1 P ∧ ∀ H2, GxR.Tabbed P H1 H2 → Q (.int (List.zipWith pb ws zs).sum) H2
instance i_sumZ {P : Addr} {Cn : L2.St → Hp → V → V → (Value → Prop) → Prop} {ta : TA} : St (tSumZ K P Cn ta σ H Q) (ta σ H (kSz K P Cn σ Q)) := ⟨id⟩
end
theorem inV_intsJ (c : Int) : ∀ l : List Int, inV (.int c) (l.map V.int) = decide (c ∈ l)
  | [] => by simp [inV]
  | d :: l => by
    have ih := inV_intsJ c l
    unfold inV at ih ⊢
    rw [List.map_cons, List.any_cons, ih, Bool.eq_iff_iff, Bool.or_eq_true, decide_eq_true_eq, decide_eq_true_eq, List.mem_cons]
    show (d == c) = true ∨ c ∈ l ↔ c = d ∨ c ∈ l
    rw [beq_iff_eq]
    exact or_congr_left eq_comm
theorem flat_intsJ : ∀ l : List Int, (l.map V.int).all flatV = true
  | [] => rfl
  | d :: l => by rw [List.map_cons, List.all_cons, flat_intsJ l]; rfl
theorem g_inJ {K : PySem.W.Frag} {H : Hp} {Q : VK} {p : Addr} {c : Int} {l : List Int} (e : H p = some (.lst (l.map V.int))) (h : Q (.bl (decide (c ∈ l))) H) : rIn K false (.int c) (.ref p) H Q :=
  g_inS e rfl (flat_intsJ l) (by rw [inV_intsJ]; exact h)
theorem g_niJ {K : PySem.W.Frag} {H : Hp} {Q : VK} {p : Addr} {c : Int} {l : List Int} (e : H p = some (.lst (l.map V.int))) (h : Q (.bl (!decide (c ∈ l))) H) : rIn K true (.int c) (.ref p) H Q :=
  g_niS e rfl (flat_intsJ l) (by rw [inV_intsJ]; exact h)
theorem idxOf_leJ {c : Int} : ∀ {l : List Int} {m : Nat}, l[m]? = some c → l.idxOf c ≤ m
  | d :: l, 0, h => by
    cases h
    rw [List.idxOf_cons_self]
    exact Nat.le_refl _
  | d :: l, m + 1, h => by
    rw [List.idxOf_cons]
    have := idxOf_leJ (l := l) (m := m) h
    cases d == c <;> simp <;> omega
theorem g_idxJ {K : PySem.W.Frag} {H : Hp} {Q : VK} {p : Addr} {c : Int} {l : List Int} (e : H p = some (.lst (l.map V.int))) (hc : c ∈ l) (h : Q (.int (l.idxOf c : Nat)) H) : rIndex K (.ref p) [.int c] H Q := by
  have il := List.idxOf_lt_length_iff.mpr hc
  refine ⟨p, l.map V.int, .int c, l.idxOf c, .int c, rfl, rfl, SqL.of e, rfl, flat_intsJ l, ?_, by show (c == c) = true; simp, fun m z hm hz => ?_, h⟩
  · rw [List.getElem?_map, List.getElem?_eq_getElem il, List.getElem_idxOf il]
    rfl
  · rw [List.getElem?_map] at hz
    obtain ⟨d, hd, rfl⟩ := Option.map_eq_some_iff.mp hz
    show (d == c) = false
    refine beq_eq_false_iff_ne.mpr fun z => ?_
    subst z
    have := idxOf_leJ hd
    omega
theorem eq_ddJ {A B : Prop} [Decidable A] [Decidable B] : decide (V.bl (decide A) = V.bl (decide B)) = decide (A ↔ B) := by
  by_cases a : A <;> by_cases b : B <;> simp [a, b]
end Ap


/-! P1: dicts of persons, rows by places. -/
namespace Ap
open PySem L2
def kvm (l : List Int) (g : Int → V) : List (Key × V) := l.map fun p => (Sum.inl p, g p)
theorem kvm_len (l : List Int) (g : Int → V) : (kvm l g).length = l.length := List.length_map _
theorem kvm_val {l : List Int} {g : Int → V} {k : Int} : k ∈ l → valV (kvm l g) (Sum.inl k) = some (g k) := by
  induction l with
  | nil => exact fun h => nomatch h
  | cons a r ih =>
    intro h
    unfold kvm valV at ih ⊢
    rw [List.map_cons, List.find?_cons]
    by_cases e : a = k
    · subst e; simp
    · have hk : k ∈ r := by
        rcases List.mem_cons.mp h with h | h
        · exact absurd h.symm e
        · exact h
      have : decide ((Sum.inl a : Key) = Sum.inl k) = false := decide_eq_false fun z => e (Sum.inl.inj z)
      simp only [this]
      exact ih hk
theorem kvm_none {l : List Int} {g : Int → V} {k : Int} (h : k ∉ l) : valV (kvm l g) (Sum.inl k) = none := by
  unfold valV
  rw [List.find?_eq_none.mpr]
  · rfl
  · intro x hx z
    obtain ⟨p, hp, rfl⟩ := List.mem_map.mp hx
    have := of_decide_eq_true z
    exact h (Sum.inl.inj this ▸ hp)
theorem kvm_congr {l : List Int} {g g' : Int → V} (h : ∀ p ∈ l, g p = g' p) : kvm l g = kvm l g' := List.map_congr_left fun p hp => by rw [h p hp]
theorem kvm_put {l : List Int} {g : Int → V} {k : Int} {v : V} (h : k ∈ l) : putK (kvm l g) (Sum.inl k) v = kvm l fun p => if p = k then v else g p := by
  unfold putK
  rw [if_pos]
  · unfold kvm
    rw [List.map_map]
    refine List.map_congr_left fun p _ => ?_
    show (if (Sum.inl p : Key) = Sum.inl k then ((Sum.inl p : Key), v) else _) = _
    by_cases e : p = k
    · rw [if_pos (by rw [e])]
      show _ = (_, if p = k then v else g p)
      rw [if_pos e]
    · rw [if_neg (fun z => e (Sum.inl.inj z))]
      show _ = (_, if p = k then v else g p)
      rw [if_neg e]
  · exact List.any_eq_true.mpr ⟨_, List.mem_map.mpr ⟨k, h, rfl⟩, decide_eq_true rfl⟩
theorem kvm_new {l : List Int} {g : Int → V} {k : Int} (h : k ∉ l) : putK (kvm l g) (Sum.inl k) (g k) = kvm (l ++ [k]) g := by
  rw [putK_new]
  · unfold kvm
    rw [List.map_append]; rfl
  · exact kvm_none h
theorem idxOf_at : ∀ {l : List Int} {i : Nat} {x : Int}, l.Nodup → l[i]? = some x → l.idxOf x = i
  | a :: r, 0, x, _, h => by
    cases h
    simp [List.idxOf_cons]
  | a :: r, i + 1, x, nd, h => by
    obtain ⟨h1, h2⟩ := List.nodup_cons.mp nd
    have hr : r[i]? = some x := h
    have ne : ¬ a = x := fun e => h1 (e ▸ List.mem_of_getElem? hr)
    rw [List.idxOf_cons, beq_false_of_ne ne, idxOf_at h2 hr]
    rfl
theorem at_idxOf : ∀ {l : List Int} {x : Int}, x ∈ l → l[l.idxOf x]? = some x
  | a :: r, x, h => by
    rw [List.idxOf_cons]
    by_cases e : a = x
    · subst e; simp
    · have hx : x ∈ r := by
        rcases List.mem_cons.mp h with h | h
        · exact absurd h.symm e
        · exact h
      rw [beq_false_of_ne e]
      exact at_idxOf hx
theorem seat_at {l : List Int} {i : Nat} {x : Int} (nd : l.Nodup) (h : l[i]? = some x) : seat l x = i + 1 := by
  unfold seat
  rw [idxOf_at nd h]
theorem seat_pos {n : Nat} {row : List Int} (h : Stand n row) {p : Int} (hp : p ∈ up n) : 1 ≤ seat row p ∧ seat row p ≤ n := by
  have e := at_idxOf (h.mem.mpr hp)
  have := (List.getElem?_eq_some_iff.mp e).1
  have := h.length
  unfold seat
  omega
theorem seat_inj {n : Nat} {row : List Int} (h : Stand n row) {p q : Int} (hp : p ∈ up n) (hq : q ∈ up n) (e : seat row p = seat row q) : p = q := by
  have e1 := at_idxOf (h.mem.mpr hp)
  have e2 := at_idxOf (h.mem.mpr hq)
  unfold seat at e
  have : row.idxOf p = row.idxOf q := by omega
  rw [this, e2] at e1
  exact (Option.some.inj e1).symm
theorem set_sw {row : List Int} {i j : Nat} {a b : Int} (nd : row.Nodup) (ha : row[i]? = some a) (hb : row[j]? = some b) (ne : a ≠ b) : (row.set j a).set i b = row.map (sw a b) := by
  refine List.ext_getElem? fun k => ?_
  have li := (List.getElem?_eq_some_iff.mp ha).1
  have lj := (List.getElem?_eq_some_iff.mp hb).1
  rw [List.getElem?_map, List.getElem?_set, List.getElem?_set, List.length_set]
  by_cases h1 : i = k
  · subst h1
    rw [if_pos rfl, if_pos li, ha, Option.map_some, sw_l]
  · rw [if_neg h1]
    by_cases h2 : j = k
    · subst h2
      rw [if_pos rfl, if_pos lj, hb, Option.map_some, sw_r]
    · rw [if_neg h2]
      cases e : row[k]? with
      | none => rfl
      | some x =>
        rw [Option.map_some, sw_o]
        · exact fun z => h1 (by rw [← idxOf_at nd ha, ← idxOf_at nd e, z])
        · exact fun z => h2 (by rw [← idxOf_at nd hb, ← idxOf_at nd e, z])
/-- the places of a row's people, as r0 tells them; d is added -/
def spk (d : Int) (r0 row : List Int) : List (Key × V) := kvm r0 fun p => .int (seat row p + d)
theorem spk_swap {d : Int} {n : Nat} {r0 row : List Int} (h0 : Stand n r0) {a b : Int} (ha : a ∈ up n) (hb : b ∈ up n) :
    putK (putK (spk d r0 row) (Sum.inl a) (.int (seat row b + d))) (Sum.inl b) (.int (seat row a + d)) = spk d r0 (row.map (sw a b)) := by
  unfold spk
  rw [kvm_put (h0.mem.mpr ha), kvm_put (h0.mem.mpr hb)]
  refine kvm_congr fun p _ => ?_
  rw [seat_map]
  by_cases h1 : p = b
  · subst h1; rw [if_pos rfl, sw_r]
  · rw [if_neg h1]
    by_cases h2 : p = a
    · subst h2; rw [if_pos rfl, sw_l]
    · rw [if_neg h2, sw_o h2 h1]
/-! ### steps of dicts in targets, and with tuple keys -/
section
variable {K : PySem.W.Frag} {σ : L2.St} {H : Hp} {Q : VK} {y v : V} {R : Hp → Prop} {R2 : L2.St → Hp → Prop}
theorem g_setD {a : Addr} {kvs : List (Key × V)} {k : Key} (e : H a = some (.dK kvs)) (ey : y = kV k) (l : kvs.length < sizeLine) (h : R (upd H a (.dK (putK kvs k v)))) : rSetD (.ref a) y v H R := ⟨a, _, rfl, by rw [ey]; exact DPut.k e l, h⟩
theorem g_setT {a b : Addr} {kvs : List (List Key × V)} {k : List Key} (e : H a = some (.dT kvs)) (eb : H b = some (.tup (k.map kV))) (l : kvs.length < sizeLine) (h : R (upd H a (.dT (putK kvs k v)))) : rSetD (.ref a) (.ref b) v H R := ⟨a, _, rfl, DPut.t e eb l, h⟩
theorem g_putT {a b : Addr} {kvs : List (List Key × V)} {k : List Key} (e : H a = some (.dT kvs)) (eb : H b = some (.tup (k.map kV))) (l : kvs.length < sizeLine) (h : R2 σ (upd H a (.dT (putK kvs k v)))) : kDf (fPut v σ R2) (.ref a) (.ref b) H := ⟨a, _, rfl, DPut.t e eb l, h⟩
theorem g_dinT {a b : Addr} {kvs : List (List Key × V)} {k : List Key} {c : Bool} (e : H a = some (.dT kvs)) (eb : H b = some (.tup (k.map kV))) (h : Q (.bl (if c = true then (valV kvs k).isSome else !(valV kvs k).isSome)) H) : kDf (fIn c Q) (.ref b) (.ref a) H := ⟨a, _, rfl, DGet.t e eb, h⟩
theorem g_dnewT (h : ∀ p, H p = none → Q (.ref p) (upd H p (.dT []))) : tDNewT σ H Q := h
end
/-! ### x += e -/
section
variable {σ : L2.St} {H : Hp} {Q : VK} {te : TE} {x y z : V} {i : Nat} {D : Ends} {ti : TIp} {a b : Int} {R : L2.St → Hp → Prop}
def kGn (i : Nat) (σ : L2.St) (R : L2.St → Hp → Prop) : VK := fun z H2 => gName i z σ H2 R
def kAug (i : Nat) (x : V) (ti : TIp) (σ : L2.St) (R : L2.St → Hp → Prop) : VK := fun y H1 => ti x y H1 (kGn i σ R)
theorem g_aug (e : σ[i]? = some (some x)) (h : te σ H (kAug i x ti σ D.nx)) : tAug i te ti D σ H := ⟨x, e, h⟩
instance i_kAug : St (kAug i x ti σ R y H) (ti x y H (kGn i σ R)) := ⟨id⟩
instance i_kGn : St (kGn i σ R z H) (gName i z σ H R) := ⟨id⟩
instance i_ipI {f : Int → Int → Int} : St (ipI f (.int a) (.int b) H Q) (Q (.int (f a b)) H) := ⟨fun h => ⟨a, b, rfl, rfl, h⟩⟩
theorem g_ipM (h : 0 < b) (q : Q (.int (a % b)) H) : ipM (.int a) (.int b) H Q := ⟨a, b, rfl, rfl, h, q⟩
end
/-! ### sets of whole numbers -/
section
variable {w : World} {σ : L2.St} {H : Hp} {Q : VK} {te : TE} {ta : TA} {x : V}
def kSad (w : World) (ta : TA) (σ : L2.St) (Q : VK) : VK := fun x H1 => (∃ a S n, x = V.ref a ∧ H1 a = some (SetO w a S n)) ∧ ta σ H1 fun xs H2 => rSAdd w x xs H2 Q
def kSad2 (w : World) (x : V) (Q : VK) : LK := fun xs H2 => rSAdd w x xs H2 Q
instance i_sadd : St (tSAdd w te ta σ H Q) (te σ H (kSad w ta σ Q)) := ⟨id⟩
instance i_kSad2 {xs : List V} : St (kSad2 w x Q xs H) (rSAdd w x xs H Q) := ⟨id⟩
theorem g_kSad {a : Addr} {S : Int → Bool} {n : Nat} (e : H a = some (SetO w a S n)) (h : ta σ H (kSad2 w (.ref a) Q)) : kSad w ta σ Q (.ref a) H := ⟨⟨a, S, n, rfl, e⟩, h⟩
theorem g_sadd {a : Addr} {k : Int} {S : Int → Bool} {n : Nat} (e : H a = some (SetO w a S n)) (l : n ≤ 3000) (h : Q .non (upd H a (SetO w a (fun j => S j || decide (j = k)) (if S k = true then n else n + 1)))) : rSAdd w (.ref a) [.int k] H Q :=
  ⟨a, k, S, n, rfl, rfl, e, Nat.lt_of_le_of_lt (m := 3001) (by omega) (by decide), h⟩
end
/-! ### dict comprehensions -/
section
variable {K : PySem.W.Frag} {σ : L2.St} {H : Hp} {Q : VK} {tk tv : TE} {tt : TT} {g : TG} {vs : List Nat} {D : Addr} {N : Hp → Prop} {y : V}
def kDc (g : TG) (tt : TT) (tk tv : TE) (vs : List Nat) (σ : L2.St) (Q : VK) : It → Hp → Prop := fun J H1 => ∀ D, H1 D = none → ∃ W : Nat → Nat → Hp → Prop, (∃ m, W 0 m (upd H1 D (.dK []))) ∧ ∀ i m H, W i m H →
  (J.stop i H ∧ Q (.ref D) H) ∨ (J.go i H ∧ ∃ Nx : Hp → Prop, (∀ H', Nx H' → ∃ m', m' < m ∧ W (i + 1) m' H') ∧ ∀ x H', J.yld i H x H' → g x (wipe σ vs) H' fun σ2 H2 => wipe σ2 vs = wipe σ vs ∧ tt σ2 H2 fun b H3 =>
    if b = true then tk σ2 H3 fun y H4 => tv σ2 H4 fun z H5 => ∃ kvs k, y = kV k ∧ H5 D = some (.dK kvs) ∧ kvs.length < sizeLine ∧ Nx (upd H5 D (.dK (putK kvs k z))) else Nx H3)
instance i_dc {wi : TI} : St (tDc wi g tt tk tv vs σ H Q) (wi σ H (kDc g tt tk tv vs σ Q)) := ⟨id⟩
def kDv (D : Addr) (y : V) (N : Hp → Prop) : VK := fun z H5 => ∃ kvs k, y = kV k ∧ H5 D = some (.dK kvs) ∧ kvs.length < sizeLine ∧ N (upd H5 D (.dK (putK kvs k z)))
def kDk (tv : TE) (σ : L2.St) (D : Addr) (N : Hp → Prop) : VK := fun y H4 => tv σ H4 (kDv D y N)
def kDg (tt : TT) (tk tv : TE) (D : Addr) (vs : List Nat) (w0 : L2.St) (N : Hp → Prop) : L2.St → Hp → Prop := fun σ2 H2 => wipe σ2 vs = w0 ∧ tt σ2 H2 (kIf (fun H3 => tk σ2 H3 (kDk tv σ2 D N)) N)
theorem g_kDg {w0 : L2.St} (e : wipe σ vs = w0) (h : tt σ H (kIf (fun H3 => tk σ H3 (kDk tv σ D N)) N)) : kDg tt tk tv D vs w0 N σ H := ⟨e, h⟩
instance i_kDk : St (kDk tv σ D N y H) (tv σ H (kDv D y N)) := ⟨id⟩
theorem g_kDv {z : V} {kvs : List (Key × V)} {k : Key} (ey : y = kV k) (e : H D = some (.dK kvs)) (l : kvs.length < sizeLine) (h : N (upd H D (.dK (putK kvs k z)))) : kDv D y N z H := ⟨kvs, k, ey, e, l, h⟩
theorem dc_it {J : It} {n : Nat} {G : Hp → Prop} {Y : Nat → Hp → V → Hp → Prop} (w : Walk J n G Y) {w0 : L2.St} (ew : wipe σ vs = w0)
    (h : ∀ D, H D = none → ∃ Pv : Nat → Hp → Prop, Pv 0 (upd H D (.dK [])) ∧ (∀ i H, i ≤ n → Pv i H → G H) ∧ (∀ i x H1 H', i < n → Pv i H1 → Y i H1 x H' → g x w0 H' (kDg tt tk tv D vs w0 (Pv (i + 1)))) ∧ ∀ H, Pv n H → Q (.ref D) H) : kDc g tt tk tv vs σ Q J H := by
  subst ew
  intro D hD
  obtain ⟨Pv, h0, hG, hs, hd⟩ := h D hD
  refine ⟨fun i m H => m = n - i ∧ i ≤ n ∧ Pv i H, ⟨n, by simp, Nat.zero_le _, h0⟩, ?_⟩
  rintro i m H1 ⟨rfl, hi, hp⟩
  by_cases e : i = n
  · subst e
    exact .inl ⟨w.stops _ (hG _ _ hi hp), hd _ hp⟩
  · have hi' : i < n := by omega
    refine .inr ⟨w.goes _ _ hi' (hG _ _ hi hp), Pv (i + 1), fun H' p' => ⟨n - (i + 1), by omega, rfl, by omega, p'⟩, fun x H' hy => hs i x H1 H' hi' hp (w.yields _ _ _ _ hi' (hG _ _ hi hp) hy)⟩
end
end Ap


/-! P3: orders drawn. -/
namespace Ap
theorem sub_of_len {α : Type} [DecidableEq α] {l D : List α} (nd : l.Nodup) (h : ∀ x ∈ l, x ∈ D) (hl : D.length ≤ l.length) : ∀ x ∈ D, x ∈ l := fun x hx => by
  refine Classical.byContradiction fun z => ?_
  have := nodup_le' (D := D.erase x) nd fun y hy => (List.mem_erase_of_ne (fun e => z (by rw [← e]; exact hy))).mpr (h y hy)
  have e := List.length_erase_of_mem hx
  have : 0 < D.length := List.length_pos_of_mem hx
  omega
theorem stand_of {n : Nat} {row : List Int} (nd : row.Nodup) (h : ∀ x ∈ row, x ∈ up n) (hl : row.length = n) : Stand n row :=
  (List.perm_ext_iff_of_nodup nd (up_nodup n)).mpr fun x => ⟨h x, sub_of_len nd h (by rw [up_length]; omega) x⟩
/-- the clock from f on -/
def turned (n : Nat) (f : Int) : List Int := (List.range n).map fun i : Nat => (f + i) % n + 1
theorem mod_once {a : Int} {n : Nat} (h0 : 0 ≤ a) (h1 : a < 2 * n) : a % n = if a < n then a else a - n := by
  split
  · exact Int.emod_eq_of_lt h0 (by assumption)
  · rename_i c
    have : a % n = (a - n) % n := by rw [Int.sub_emod_right]
    rw [this]
    exact Int.emod_eq_of_lt (by omega) (by omega)
theorem turned_stand {n : Nat} {f : Int} (h0 : 0 ≤ f) (h1 : f < n) : Stand n (turned n f) := by
  refine stand_of ?_ ?_ (by unfold turned; rw [List.length_map, List.length_range])
  · refine List.pairwise_iff_getElem.mpr fun i j hi hj hij e => ?_
    unfold turned at e hi hj
    rw [List.length_map, List.length_range] at hi hj
    simp only [List.getElem_map, List.getElem_range] at e
    rw [mod_once (by omega) (by omega), mod_once (by omega) (by omega)] at e
    split at e <;> split at e <;> omega
  · intro x hx
    obtain ⟨i, hi, rfl⟩ := List.mem_map.mp hx
    have := List.mem_range.mp hi
    have := Int.emod_nonneg (f + (i : Int)) (b := n) (by omega)
    have := Int.emod_lt_of_pos (f + (i : Int)) (b := n) (by omega)
    exact up_mem.mpr (by omega)
end Ap


/-! P7: breaks, plainly; alike orders. -/
namespace Ap
/-- the breaks of an order, ascending -/
def brk (n : Nat) (o : List Int) : List Int := (up n).filter fun c => decide (o.idxOf (nx n c) < o.idxOf c)
theorem brk_mem {n : Nat} {o : List Int} {c : Int} : c ∈ brk n o ↔ c ∈ up n ∧ o.idxOf (nx n c) < o.idxOf c := by
  unfold brk
  rw [List.mem_filter, decide_eq_true_eq]
theorem brk_sub {n : Nat} {o : List Int} : ∀ c ∈ brk n o, c ∈ up n := fun _ h => (brk_mem.mp h).1
theorem brk_ext {n : Nat} {o o' : List Int} (h : ∀ c ∈ up n, o.idxOf (nx n c) < o.idxOf c ↔ o'.idxOf (nx n c) < o'.idxOf c) : brk n o = brk n o' :=
  List.filter_congr fun c hc => decide_eq_decide.mpr (h c hc)
theorem brk_eq {n : Nat} {o o' : List Int} : brk n o = brk n o' ↔ ∀ c ∈ up n, (c ∈ brk n o ↔ c ∈ brk n o') := by
  constructor
  · intro e c _
    rw [e]
  · intro h
    refine brk_ext fun c hc => ?_
    have := h c hc
    rw [brk_mem, brk_mem] at this
    exact ⟨fun z => (this.mp ⟨hc, z⟩).2, fun z => (this.mpr ⟨hc, z⟩).2⟩
/-! ### calls that name nobody twice -/
theorem nx_inj {n : Nat} {c d : Int} (hc : c ∈ up n) (hd : d ∈ up n) (h : nx n c = nx n d) : c = d := by
  have b := up_mem.mp hc
  have b' := up_mem.mp hd
  rw [nx_eq hc, nx_eq hd] at h
  split at h <;> split at h <;> omega
theorem sw_comm {a b c d x : Int} (h1 : a ≠ c) (h2 : a ≠ d) (h3 : b ≠ c) (h4 : b ≠ d) : sw a b (sw c d x) = sw c d (sw a b x) := by
  by_cases e1 : x = a
  · subst e1; rw [sw_o h1 h2, sw_l, sw_o h3 h4]
  · by_cases e2 : x = b
    · subst e2; rw [sw_o h3 h4, sw_r, sw_o h1 h2]
    · rw [sw_o e1 e2]
      by_cases e3 : x = c
      · subst e3; rw [sw_l, sw_o (Ne.symm h2) (Ne.symm h4)]
      · by_cases e4 : x = d
        · subst e4; rw [sw_r, sw_o (Ne.symm h1) (Ne.symm h3)]
        · rw [sw_o e3 e4, sw_o e1 e2]
/-- two calls that name nobody both -/
def Far (n : Nat) (c d : Int) : Prop := c ≠ d ∧ nx n c ≠ d ∧ nx n d ≠ c
theorem Far.symm {n : Nat} {c d : Int} (h : Far n c d) : Far n d c := ⟨Ne.symm h.1, h.2.2, h.2.1⟩
theorem step_t {ts : List Tie} {n : Int} {row : List Int} {c : Int} (h : Tied ts (seat row c) (seat row (nx n c))) : step ts n row c = row := if_pos h
theorem step_f {ts : List Tie} {n : Int} {row : List Int} {c : Int} (h : ¬ Tied ts (seat row c) (seat row (nx n c))) : step ts n row c = row.map (sw c (nx n c)) := if_neg h
theorem step_comm {ts : List Tie} {n : Nat} {c d : Int} (hc : c ∈ up n) (hd : d ∈ up n) (h : Far n c d) (row : List Int) : step ts n (step ts n row c) d = step ts n (step ts n row d) c := by
  obtain ⟨h1, h2, h3⟩ := h
  have h4 : nx n c ≠ nx n d := fun e => h1 (nx_inj hc hd e)
  have k1 : ∀ r : List Int, seat (r.map (sw c (nx n c))) d = seat r d := fun r => by rw [seat_map, sw_o (Ne.symm h1) (Ne.symm h2)]
  have k2 : ∀ r : List Int, seat (r.map (sw c (nx n c))) (nx n d) = seat r (nx n d) := fun r => by rw [seat_map, sw_o h3 (Ne.symm h4)]
  have k3 : ∀ r : List Int, seat (r.map (sw d (nx n d))) c = seat r c := fun r => by rw [seat_map, sw_o h1 (Ne.symm h3)]
  have k4 : ∀ r : List Int, seat (r.map (sw d (nx n d))) (nx n c) = seat r (nx n c) := fun r => by rw [seat_map, sw_o h2 h4]
  by_cases t1 : Tied ts (seat row c) (seat row (nx n c)) <;> by_cases t2 : Tied ts (seat row d) (seat row (nx n d))
  · rw [step_t t1, step_t t2, step_t t1]
  · rw [step_t t1, step_f t2, step_t (by rw [k3, k4]; exact t1)]
  · rw [step_f t1, step_t (by rw [k1, k2]; exact t2), step_t t2, step_f t1]
  · rw [step_f t1, step_f (by rw [k1, k2]; exact t2), step_f t2, step_f (by rw [k3, k4]; exact t1), List.map_map, List.map_map]
    refine List.map_congr_left fun x _ => ?_
    exact sw_comm (Ne.symm h1) (Ne.symm h2) h3 (Ne.symm h4)
/-- an order with two neighbours exchanged -/
inductive Bent (n : Nat) : List Int → List Int → Prop
  | refl (o : List Int) : Bent n o o
  | step {o : List Int} {l r : List Int} {c d : Int} : Bent n o (l ++ c :: d :: r) → Far n c d → Bent n o (l ++ d :: c :: r)
theorem Bent.perm {n : Nat} {o o' : List Int} (h : Bent n o o') : o'.Perm o := by
  induction h with
  | refl => exact .refl _
  | step _ _ ih => exact (List.Perm.append_left _ (List.Perm.swap _ _ _)).trans ih
theorem Bent.stand {n : Nat} {o o' : List Int} (h : Bent n o o') (hS : Stand n o) : Stand n o' := h.perm.trans hS
theorem Bent.moved {n : Nat} {ts : List Tie} {o o' : List Int} (h : Bent n o o') (hS : Stand n o) (row : List Int) : moved ts n row o' = Ap.moved ts n row o := by
  induction h with
  | refl => rfl
  | step b f ih =>
    rename_i l r c d
    have hl := b.stand hS
    have hc : c ∈ up n := hl.mem.mp (by simp)
    have hd : d ∈ up n := hl.mem.mp (by simp)
    rw [← ih, moved_app, moved_app]
    show (r.foldl (Ap.step ts n) (Ap.step ts n (Ap.step ts n (Ap.moved ts n row l) d) c)) = (r.foldl (Ap.step ts n) (Ap.step ts n (Ap.step ts n (Ap.moved ts n row l) c) d))
    rw [step_comm hd hc f.symm]
theorem Bent.movedR {n : Nat} {ts : List Tie} {o o' : List Int} (h : Bent n o o') (hS : Stand n o) (row : List Int) : Ap.moved ts n row o'.reverse = Ap.moved ts n row o.reverse := by
  have e : ∀ x, Ap.moved ts n (Ap.moved ts n x o') o'.reverse = x := fun x => moved_back ts n o' x
  have e2 : ∀ x, Ap.moved ts n (Ap.moved ts n x o) o.reverse = x := fun x => moved_back ts n o x
  have := e (Ap.moved ts n row o.reverse)
  rw [h.moved hS, moved_back'] at this
  exact this
theorem idx_swap {l r : List Int} {c d x : Int} (nd : (l ++ c :: d :: r).Nodup) : (l ++ d :: c :: r).idxOf x = if x = c then l.length + 1 else if x = d then l.length else (l ++ c :: d :: r).idxOf x := by
  have nd' : (l ++ d :: c :: r).Nodup := (List.Perm.append_left l (List.Perm.swap c d r)).nodup_iff.mpr nd
  have cd : c ≠ d := fun e => by
    subst e
    have := (List.nodup_append.mp nd).2.1
    exact (List.nodup_cons.mp this).1 List.mem_cons_self
  by_cases h1 : x = c
  · subst h1
    rw [if_pos rfl]
    exact idxOf_at nd' (by rw [List.getElem?_append_right (by omega)]; simp)
  · rw [if_neg h1]
    by_cases h2 : x = d
    · subst h2
      rw [if_pos rfl]
      exact idxOf_at nd' (by rw [List.getElem?_append_right (by omega)]; simp)
    · rw [if_neg h2, List.idxOf_append, List.idxOf_append]
      split
      · rfl
      · rw [List.idxOf_cons, List.idxOf_cons, List.idxOf_cons, List.idxOf_cons, beq_false_of_ne (Ne.symm h1), beq_false_of_ne (Ne.symm h2)]
theorem Bent.brk {n : Nat} {o o' : List Int} (n2 : 2 ≤ n) (h : Bent n o o') (hS : Stand n o) : brk n o' = Ap.brk n o := by
  induction h with
  | refl => rfl
  | step b f ih =>
    rename_i l r c d
    have hl := b.stand hS
    rw [← ih]
    have nd := hl.nodup
    have ic : (l ++ c :: d :: r).idxOf c = l.length := idxOf_at nd (by rw [List.getElem?_append_right (by omega)]; simp)
    have id : (l ++ c :: d :: r).idxOf d = l.length + 1 := idxOf_at nd (by rw [List.getElem?_append_right (by omega)]; simp)
    have other : ∀ x, x ∈ up n → x ≠ c → x ≠ d → (l ++ c :: d :: r).idxOf x ≠ l.length ∧ (l ++ c :: d :: r).idxOf x ≠ l.length + 1 := fun x hx h1 h2 => by
      have e := at_idxOf (hl.mem.mpr hx)
      constructor
      · intro z
        rw [z, ← ic, at_idxOf (by simp)] at e
        exact h1 (Option.some.inj e).symm
      · intro z
        rw [z, ← id, at_idxOf (by simp)] at e
        exact h2 (Option.some.inj e).symm
    obtain ⟨f1, f2, f3⟩ := f
    refine brk_ext fun x hx => ?_
    have hy : nx n x ∈ up n := nx_mem (by omega)
    have xy := nx_ne hx n2
    rw [idx_swap nd, idx_swap nd]
    by_cases a1 : x = c
    · subst a1
      rw [if_pos rfl, if_neg xy, if_neg f2, ic]
      have := other _ hy xy f2
      omega
    · by_cases a2 : x = d
      · subst a2
        rw [if_neg a1, if_pos rfl, if_neg f3, if_neg xy, id]
        have := other _ hy f3 xy
        omega
      · rw [if_neg a1, if_neg a2]
        have h3 := other x hx a1 a2
        by_cases b1 : nx n x = c
        · rw [if_pos b1, b1, ic]; omega
        · rw [if_neg b1]
          by_cases b2 : nx n x = d
          · rw [if_pos b2, b2, id]; omega
          · rw [if_neg b2]
end Ap


/-! P9: lots of calls round the clock, tnd on by a call; the nearest way from one lot to another. -/
namespace Ap
/-- round the clock: from 1 to n -/
def wrp (n : Nat) (x : Int) : Int := (x - 1) % n + 1
theorem wrp_mem {n : Nat} (h : 1 ≤ n) (x : Int) : 1 ≤ wrp n x ∧ wrp n x ≤ n := by
  unfold wrp
  have := Int.emod_nonneg (x - 1) (b := n) (by omega)
  have := Int.emod_lt_of_pos (x - 1) (b := n) (by omega)
  omega
theorem wrp_id {n : Nat} {x : Int} (h : 1 ≤ x) (h' : x ≤ n) : wrp n x = x := by
  unfold wrp
  rw [Int.emod_eq_of_lt (by omega) (by omega)]
  omega
theorem wrp_add (n : Nat) (x t : Int) : wrp n (x + n * t) = wrp n x := by
  unfold wrp
  rw [show x + n * t - 1 = x - 1 + n * t by omega, Int.add_mul_emod_self_left]
theorem wrp_wrp (n : Nat) (x d : Int) : wrp n (wrp n x + d) = wrp n (x + d) := by
  unfold wrp
  rw [show (x - 1) % n + 1 + d - 1 = (x - 1) % n + d by omega, show x + d - 1 = x - 1 + d by omega, Int.emod_add_emod]
theorem wrp_eq {n : Nat} {x y : Int} : wrp n x = wrp n y ↔ x % n = y % n := by
  unfold wrp
  constructor
  · intro h
    have h : (x - 1) % n = (y - 1) % n := by omega
    have := Int.emod_add_emod (x - 1) n 1
    have e := Int.emod_add_emod (y - 1) n 1
    rw [h, e] at this
    rw [show x - 1 + 1 = x by omega, show y - 1 + 1 = y by omega] at this
    exact this.symm
  · intro h
    have : (x - 1) % n = (y - 1) % n := by
      rw [Int.sub_eq_add_neg, Int.sub_eq_add_neg, ← Int.emod_add_emod x, ← Int.emod_add_emod y, h]
    rw [this]
theorem wrp_dec (n : Nat) (x : Int) : ∃ t, x = wrp n x + n * t := ⟨(x - 1) / n, by
  unfold wrp
  have := Int.emod_add_mul_ediv (x - 1) n
  omega⟩
/-- some of the calls, ascending, at least one and not all -/
structure Bks (n : Nat) (A : List Int) : Prop where
  asc : A.Pairwise (· < ·)
  mem : ∀ x ∈ A, 1 ≤ x ∧ x ≤ n
  pos : 0 < A.length
  lt : A.length < n
theorem asc_ext : ∀ {A B : List Int}, A.Pairwise (· < ·) → B.Pairwise (· < ·) → (∀ x, x ∈ A ↔ x ∈ B) → A = B
  | [], [], _, _, _ => rfl
  | [], b :: B, _, _, h => nomatch (h b).mpr List.mem_cons_self
  | a :: A, [], _, _, h => nomatch (h a).mp List.mem_cons_self
  | a :: A, b :: B, hA, hB, h => by
    obtain ⟨a1, a2⟩ := List.pairwise_cons.mp hA
    obtain ⟨b1, b2⟩ := List.pairwise_cons.mp hB
    have e : a = b := by
      rcases List.mem_cons.mp ((h a).mp List.mem_cons_self) with e | e
      · exact e
      · rcases List.mem_cons.mp ((h b).mpr List.mem_cons_self) with e' | e'
        · exact e'.symm
        · have := a1 _ e'
          have := b1 _ e
          omega
    subst e
    refine congrArg _ (asc_ext a2 b2 fun x => ⟨fun hx => ?_, fun hx => ?_⟩)
    · rcases List.mem_cons.mp ((h x).mp (List.mem_cons_of_mem _ hx)) with e | e
      · have := a1 _ hx
        omega
      · exact e
    · rcases List.mem_cons.mp ((h x).mpr (List.mem_cons_of_mem _ hx)) with e | e
      · have := b1 _ hx
        omega
      · exact e
theorem up_asc (n : Nat) : (up n).Pairwise (· < ·) := by
  unfold up
  refine List.Pairwise.map _ (fun a b h => ?_) List.pairwise_lt_range
  show (1 : Int) + a < 1 + b
  omega
theorem filter_asc (n : Nat) (p : Int → Bool) : ((up n).filter p).Pairwise (· < ·) := (up_asc n).filter _
/-- the lot A, goneL on with for ever in both directions -/
def lq (n : Nat) (A : List Int) (i : Int) : Int := A.getD (i % A.length).toNat 0 + n * (i / A.length)
theorem dec_i {s : Nat} (h : 0 < s) (i : Int) : ∃ (t : Int) (r : Nat), r < s ∧ i = s * t + r := by
  have h0 := Int.emod_nonneg i (b := s) (by omega)
  have h1 := Int.emod_lt_of_pos i (b := s) (by omega)
  have := Int.emod_add_mul_ediv i s
  exact ⟨i / s, (i % s).toNat, by omega, by omega⟩
theorem md_r {s r : Nat} (h : r < s) (t : Int) : ((s : Int) * t + r) % s = r := by
  rw [Int.add_comm, Int.add_mul_emod_self_left]
  exact Int.emod_eq_of_lt (by omega) (by omega)
theorem dv_r {s r : Nat} (h : r < s) (t : Int) : ((s : Int) * t + r) / s = t := by
  rw [Int.add_comm, Int.add_mul_ediv_left _ _ (by omega), Int.ediv_eq_zero_of_lt (by omega) (by omega), Int.zero_add]
section
variable {n : Nat} {A B : List Int}
theorem lq_eq {r : Nat} (h : r < A.length) (t : Int) : lq n A (A.length * t + r) = A[r] + n * t := by
  unfold lq
  rw [md_r h, dv_r h]
  simp [List.getD_eq_getElem?_getD, List.getElem?_eq_getElem h]
theorem lq_at {r : Nat} (h : r < A.length) : lq n A r = A[r] := by
  have := lq_eq (n := n) h 0
  simpa using this
theorem lq_per (hp : 0 < A.length) (i t : Int) : lq n A (i + A.length * t) = lq n A i + n * t := by
  obtain ⟨u, r, hr, rfl⟩ := dec_i hp i
  rw [show (A.length : Int) * u + r + A.length * t = A.length * (u + t) + r by rw [Int.mul_add]; omega, lq_eq hr, lq_eq hr, Int.mul_add]
  omega
theorem asc_get {A : List Int} (h : A.Pairwise (· < ·)) {i j : Nat} (hi : i < A.length) (hj : j < A.length) (l : i < j) : A[i] < A[j] := List.pairwise_iff_getElem.mp h i j hi hj l
theorem lq_succ (hA : Bks n A) (i : Int) : lq n A i < lq n A (i + 1) := by
  obtain ⟨t, r, hr, rfl⟩ := dec_i hA.pos i
  by_cases h : r + 1 < A.length
  · rw [show (A.length : Int) * t + r + 1 = A.length * t + (r + 1 : Nat) by omega, lq_eq hr, lq_eq h]
    have := asc_get hA.asc hr h (by omega)
    omega
  · rw [show (A.length : Int) * t + r + 1 = A.length * (t + 1) + (0 : Nat) by rw [Int.mul_add]; omega, lq_eq hr, lq_eq hA.pos, Int.mul_add]
    have := hA.mem _ (List.getElem_mem hr)
    have := hA.mem _ (List.getElem_mem hA.pos)
    omega
theorem mono_of {f : Int → Int} (h : ∀ i, f i < f (i + 1)) {i j : Int} (l : i < j) : f i < f j := by
  obtain ⟨k, rfl⟩ : ∃ k : Nat, j = i + 1 + k := ⟨(j - i - 1).toNat, by omega⟩
  induction k with
  | zero => simpa using h i
  | succ k ih =>
    have := h (i + 1 + k)
    have := ih (by omega)
    rw [show i + 1 + ((k + 1 : Nat) : Int) = i + 1 + k + 1 by omega]
    omega
theorem mono_inj {f : Int → Int} (h : ∀ i, f i < f (i + 1)) {i j : Int} (e : f i = f j) : i = j := by
  rcases Int.lt_trichotomy i j with l | l | l
  · have := mono_of h l; omega
  · exact l
  · have := mono_of h l; omega
theorem mono_lt {f : Int → Int} (h : ∀ i, f i < f (i + 1)) {i j : Int} (e : f i < f j) : i < j := by
  rcases Int.lt_trichotomy i j with l | l | l
  · exact l
  · rw [l] at e; omega
  · have := mono_of h l; omega
theorem lq_res (hA : Bks n A) (x : Int) : wrp n x ∈ A ↔ ∃ i, lq n A i = x := by
  constructor
  · intro h
    obtain ⟨r, hr, e⟩ := List.getElem_of_mem h
    obtain ⟨t, et⟩ := wrp_dec n x
    exact ⟨A.length * t + r, by rw [lq_eq hr, e]; exact et.symm⟩
  · rintro ⟨i, rfl⟩
    obtain ⟨t, r, hr, rfl⟩ := dec_i hA.pos i
    rw [lq_eq hr, wrp_add]
    have hm := List.getElem_mem hr
    have := hA.mem _ hm
    rw [wrp_id this.1 this.2]
    exact hm
/-- two ascending rows without end that hold the same -/
theorem enum_unique {f g : Int → Int} (hf : ∀ i, f i < f (i + 1)) (hg : ∀ i, g i < g (i + 1)) (im : ∀ x, (∃ i, f i = x) ↔ (∃ i, g i = x)) : ∃ k, ∀ i, f i = g (i + k) := by
  obtain ⟨k, hk⟩ := (im (f 0)).mp ⟨0, rfl⟩
  have nxt : ∀ {f g : Int → Int}, (∀ i, f i < f (i + 1)) → (∀ i, g i < g (i + 1)) → (∀ x, (∃ i, f i = x) → (∃ i, g i = x)) → ∀ i j, f i = g j → g (j + 1) ≤ f (i + 1) := fun {f g} hf hg im i j e => by
    obtain ⟨m, hm⟩ := im _ ⟨i + 1, rfl⟩
    have := hf i
    have l := mono_lt hg (i := j) (j := m) (by omega)
    rcases Int.lt_trichotomy (j + 1) m with z | z | z
    · have := mono_of hg z; omega
    · rw [z]; omega
    · omega
  have prv : ∀ {f g : Int → Int}, (∀ i, f i < f (i + 1)) → (∀ i, g i < g (i + 1)) → (∀ x, (∃ i, f i = x) → (∃ i, g i = x)) → ∀ i j, f i = g j → f (i - 1) ≤ g (j - 1) := fun {f g} hf hg im i j e => by
    obtain ⟨m, hm⟩ := im _ ⟨i - 1, rfl⟩
    have := hf (i - 1)
    rw [show i - 1 + 1 = i by omega] at this
    have l := mono_lt hg (i := m) (j := j) (by omega)
    rcases Int.lt_trichotomy m (j - 1) with z | z | z
    · have := mono_of hg z; omega
    · rw [← z]; omega
    · omega
  refine ⟨k, fun i => ?_⟩
  have up' : ∀ m : Nat, f m = g (m + k) := fun m => by
    induction m with
    | zero => simpa using hk.symm
    | succ m ih =>
      have a := nxt hf hg (fun x h => (im x).mp h) m (m + k) ih
      have b := nxt hg hf (fun x h => (im x).mpr h) (m + k) m ih.symm
      rw [show (((m + 1 : Nat) : Int)) = m + 1 by omega, show (m : Int) + 1 + k = m + k + 1 by omega]
      omega
  have dn : ∀ m : Nat, f (-m) = g (-m + k) := fun m => by
    induction m with
    | zero => simpa using hk.symm
    | succ m ih =>
      have a := prv hf hg (fun x h => (im x).mp h) (-m) (-m + k) ih
      have b := prv hg hf (fun x h => (im x).mpr h) (-m + k) (-m) ih.symm
      rw [show (-((m + 1 : Nat) : Int)) = -m - 1 by omega, show -(m : Int) - 1 + k = -m + k - 1 by omega]
      omega
  rcases Int.le_total 0 i with h | h
  · have := up' i.toNat
    rwa [Int.toNat_of_nonneg h] at this
  · have := dn (-i).toNat
    rwa [Int.toNat_of_nonneg (by omega), show - -i = i by omega] at this
end
/-! ### tnd on by a call -/
def gonC (n : Nat) (A : List Int) (c : Int) : Int := if c ∈ A then c else wrp n (c - 1)
def comC (n : Nat) (A : List Int) (c : Int) : Int := if c ∈ A then wrp n (c - 1) else c
/-- the lot A, tnd on by the call c -/
def tnd (n : Nat) (A : List Int) (c : Int) : Option (List Int) :=
  if (c ∈ A ↔ wrp n (c - 1) ∈ A) then none else some ((up n).filter fun x => decide (x = comC n A c ∨ (x ≠ gonC n A c ∧ x ∈ A)))
/-- the lot A with a goneL to the next place in the direction e -/
def goneL (n : Nat) (A : List Int) (a e : Int) : List Int := (up n).filter fun x => decide (x = wrp n (a + e) ∨ (x ≠ a ∧ x ∈ A))
section
variable {n : Nat} {A A' B : List Int} {c a e : Int}
theorem tnd_some (hA : Bks n A) (hc : c ∈ up n) : tnd n A c = some A' ↔ ∃ a e, (e = 1 ∨ e = -1) ∧ a ∈ A ∧ wrp n (a + e) ∉ A ∧ c = wrp n (max a (a + e)) ∧ A' = goneL n A a e := by
  have hn : 1 ≤ n := by have := hA.lt; omega
  have hc := up_mem.mp hc
  have w1 : wrp n (wrp n (c - 1) + 1) = c := by rw [wrp_wrp, show c - 1 + 1 = c by omega, wrp_id hc.1 hc.2]
  unfold tnd
  constructor
  · intro h
    split at h
    · cases h
    · rename_i z
      obtain rfl := Option.some.inj h
      by_cases h1 : c ∈ A
      · have h2 : wrp n (c - 1) ∉ A := fun y => z ⟨fun _ => y, fun _ => h1⟩
        refine ⟨c, -1, .inr rfl, h1, h2, ?_, ?_⟩
        · rw [show max c (c + -1) = c by omega, wrp_id hc.1 hc.2]
        · unfold comC gonC goneL
          rw [if_pos h1, if_pos h1]
          rfl
      · have h2 : wrp n (c - 1) ∈ A := Classical.byContradiction fun y => z ⟨fun k => absurd k h1, fun k => absurd k y⟩
        refine ⟨wrp n (c - 1), 1, .inl rfl, h2, by rw [w1]; exact h1, ?_, ?_⟩
        · rw [show max (wrp n (c - 1)) (wrp n (c - 1) + 1) = wrp n (c - 1) + 1 by omega, w1]
        · unfold comC gonC goneL
          rw [if_neg h1, if_neg h1, w1]
  · rintro ⟨a, e, he, ha, hn', ec, rfl⟩
    have hm := hA.mem a ha
    rcases he with rfl | rfl
    · rw [show max a (a + 1) = a + 1 by omega] at ec
      have w2 : wrp n (c - 1) = a := by rw [ec, Int.sub_eq_add_neg, wrp_wrp, show a + 1 + -1 = a by omega, wrp_id hm.1 hm.2]
      have h1 : c ∉ A := by rw [ec]; exact hn'
      rw [if_neg (fun z => h1 (z.mpr (by rw [w2]; exact ha)))]
      unfold comC gonC goneL
      rw [if_neg h1, if_neg h1, w2, ← ec]
    · rw [show max a (a + -1) = a by omega, wrp_id hm.1 hm.2] at ec
      subst ec
      have h2 : wrp n (c - 1) ∉ A := hn'
      rw [if_neg (fun z => h2 (z.mp ha))]
      unfold comC gonC goneL
      rw [if_pos ha, if_pos ha]
      rfl
theorem goneL_mem {x : Int} (hA : Bks n A) : x ∈ goneL n A a e ↔ x = wrp n (a + e) ∨ (x ≠ a ∧ x ∈ A) := by
  unfold goneL
  rw [List.mem_filter, decide_eq_true_eq, up_mem]
  constructor
  · exact fun h => h.2
  · intro h
    refine ⟨?_, h⟩
    rcases h with rfl | h
    · exact wrp_mem (by have := hA.lt; omega) _
    · exact hA.mem _ h.2
/-- what becomes of the row without end -/
theorem goneL_q (hA : Bks n A) {r : Nat} (hr : r < A.length) (he : e = 1 ∨ e = -1) (hn : wrp n (A[r] + e) ∉ A) :
    Bks n (goneL n A A[r] e) ∧ (goneL n A A[r] e).length = A.length ∧ ∃ d, ∀ j, lq n (goneL n A A[r] e) (j + d) = lq n A j + if j % A.length = r then e else 0 := by
  have hn1 : 1 ≤ n := by have := hA.lt; omega
  have hmem := fun x => goneL_mem (x := x) (a := A[r]) (e := e) hA
  have hasc : (goneL n A A[r] e).Pairwise (· < ·) := filter_asc n _
  generalize goneL n A A[r] e = A' at hmem hasc
  have hrange : ∀ x ∈ A', 1 ≤ x ∧ x ≤ n := fun x hx => by
    rcases (hmem x).mp hx with rfl | h
    · exact wrp_mem hn1 _
    · exact hA.mem _ h.2
  have hpos : 0 < A'.length := List.length_pos_of_mem ((hmem _).mpr (.inl rfl))
  have hlen : A'.length = A.length := by
    -- both are perms
    have p : A'.Perm (wrp n (A[r] + e) :: A.erase A[r]) := by
      have nA : A.Nodup := hA.asc.imp (fun h => by omega)
      refine (List.perm_ext_iff_of_nodup (hasc.imp (fun h => by omega)) ?_).mpr fun x => ?_
      · refine List.nodup_cons.mpr ⟨fun z => hn (List.mem_of_mem_erase z), nA.erase _⟩
      · rw [hmem, List.mem_cons, nA.mem_erase_iff]
    have := p.length_eq
    rw [List.length_cons, List.length_erase_of_mem (List.getElem_mem hr)] at this
    omega
  have hB : Bks n A' := ⟨hasc, hrange, hpos, by rw [hlen]; exact hA.lt⟩
  refine ⟨hB, hlen, ?_⟩
  have hA0 := hA.pos
  have hno : ∀ t : Int, ∀ j, lq n A j ≠ lq n A (A.length * t + r) + e := fun t j h => by
    rw [lq_eq hr] at h
    have := (lq_res hA (A[r] + n * t + e)).mpr ⟨j, h⟩
    rw [show A[r] + n * t + e = A[r] + e + n * t by omega, wrp_add] at this
    exact hn this
  have key : ∀ j : Int, j % A.length = r → ∃ t : Int, j = A.length * t + r := fun j h => ⟨j / A.length, by
    have := Int.emod_add_mul_ediv j A.length
    omega⟩
  obtain ⟨d, hd⟩ := enum_unique (f := fun j => lq n A j + if j % A.length = r then e else 0) (g := lq n A') (fun j => by
    have hs := lq_succ hA j
    show lq n A j + (if j % A.length = r then e else 0) < lq n A (j + 1) + (if (j + 1) % A.length = r then e else 0)
    by_cases h1 : j % A.length = r
    · rw [if_pos h1]
      by_cases h2 : (j + 1) % A.length = r
      · rw [if_pos h2]; omega
      · rw [if_neg h2]
        obtain ⟨t, et⟩ := key j h1
        have := hno t (j + 1)
        rw [← et] at this
        rcases he with rfl | rfl <;> omega
    · rw [if_neg h1]
      by_cases h2 : (j + 1) % A.length = r
      · rw [if_pos h2]
        obtain ⟨t, et⟩ := key (j + 1) h2
        have := hno t j
        rw [← et] at this
        rcases he with rfl | rfl <;> omega
      · rw [if_neg h2]; omega) (fun j => lq_succ hB j) (fun x => by
    rw [← lq_res hB, hmem]
    constructor
    · rintro ⟨j, rfl⟩
      show wrp n (lq n A j + if j % A.length = r then e else 0) = _ ∨ _
      split
      · rename_i h
        obtain ⟨t, rfl⟩ := key j h
        rw [lq_eq hr, show A[r] + n * t + e = A[r] + e + n * t by omega, wrp_add]
        exact .inl rfl
      · rename_i h
        rw [Int.add_zero]
        refine .inr ⟨fun z => h ?_, (lq_res hA _).mpr ⟨j, rfl⟩⟩
        obtain ⟨t, r', hr', rfl⟩ := dec_i hA0 j
        have hm := hA.mem _ (List.getElem_mem hr')
        rw [lq_eq hr', wrp_add, wrp_id hm.1 hm.2] at z
        rw [md_r hr']
        have nA : A.Nodup := hA.asc.imp (fun h => by omega)
        rw [(List.getElem_inj nA).mp z]
    · rintro (h | ⟨h1, h2⟩)
      · obtain ⟨t, et⟩ := wrp_dec n x
        obtain ⟨u, eu⟩ := wrp_dec n (A[r] + e)
        refine ⟨A.length * (t - u) + r, ?_⟩
        show lq n A _ + (if _ then e else 0) = x
        rw [if_pos (md_r hr _), lq_eq hr, Int.mul_sub]
        omega
      · obtain ⟨j, rfl⟩ := (lq_res hA x).mp h2
        refine ⟨j, ?_⟩
        show lq n A j + (if _ then e else 0) = lq n A j
        rw [if_neg, Int.add_zero]
        intro h
        obtain ⟨t, rfl⟩ := key j h
        have hm := hA.mem _ (List.getElem_mem hr)
        rw [lq_eq hr, wrp_add, wrp_id hm.1 hm.2] at h1
        exact h1 rfl)
  exact ⟨d, fun j => (hd j).symm⟩
end
/-! ### how far -/
/-- where each of the lot goes, if it goes to the one k places on -/
def glv (n : Nat) (A : List Int) (k : Int) : List Int := (List.range A.length).map fun i : Nat => lq n A (i + k)
def farL (xs ys : List Int) : Nat := (List.zipWith (fun x y => (x - y).natAbs) xs ys).sum
theorem farL_comm : ∀ xs ys : List Int, farL xs ys = farL ys xs
  | [], ys => by cases ys <;> rfl
  | _ :: _, [] => rfl
  | x :: xs, y :: ys => by
    have := farL_comm xs ys
    unfold farL at this ⊢
    rw [List.zipWith_cons_cons, List.zipWith_cons_cons, List.sum_cons, List.sum_cons, this]
    omega
theorem farL_zero : ∀ {xs ys : List Int}, xs.length = ys.length → (farL xs ys = 0 ↔ xs = ys)
  | [], [], _ => by simp [farL]
  | x :: xs, y :: ys, h => by
    have := farL_zero (xs := xs) (ys := ys) (by simpa using h)
    unfold farL at this ⊢
    rw [List.zipWith_cons_cons, List.sum_cons, List.cons.injEq, ← this]
    omega
theorem farL_set : ∀ {xs ys : List Int} {i : Nat} {x y z : Int}, xs[i]? = some x → ys[i]? = some y → farL xs (ys.set i z) + (x - y).natAbs = farL xs ys + (x - z).natAbs
  | x :: xs, y :: ys, 0, _, _, z, hx, hy => by
    cases hx; cases hy
    unfold farL
    rw [List.set_cons_zero, List.zipWith_cons_cons, List.zipWith_cons_cons, List.sum_cons, List.sum_cons]
    omega
  | x :: xs, y :: ys, i + 1, a, b, z, hx, hy => by
    have := farL_set (xs := xs) (ys := ys) (i := i) (z := z) hx hy
    unfold farL at this ⊢
    rw [List.set_cons_succ, List.zipWith_cons_cons, List.zipWith_cons_cons, List.sum_cons, List.sum_cons]
    omega
theorem farL_le : ∀ {xs ys zs : List Int}, xs.length = ys.length → xs.length = zs.length → (∀ (i : Nat) (x y z : Int), xs[i]? = some x → ys[i]? = some y → zs[i]? = some z → (x - y).natAbs ≤ (x - z).natAbs) → farL xs ys ≤ farL xs zs
  | [], [], [], _, _, _ => Nat.le_refl _
  | x :: xs, y :: ys, z :: zs, h1, h2, h => by
    have a := farL_le (xs := xs) (ys := ys) (zs := zs) (by simpa using h1) (by simpa using h2) fun i => h (i + 1)
    have b := h 0 x y z rfl rfl rfl
    unfold farL at a ⊢
    rw [List.zipWith_cons_cons, List.zipWith_cons_cons, List.sum_cons, List.sum_cons]
    omega
theorem glv_len (n : Nat) (A : List Int) (k : Int) : (glv n A k).length = A.length := by simp [glv]
theorem glv_get {n : Nat} {A : List Int} {k : Int} {i : Nat} (h : i < A.length) : (glv n A k)[i]? = some (lq n A (i + k)) := by
  unfold glv
  rw [List.getElem?_map, List.getElem?_range h]; rfl
theorem glv_zero (n : Nat) (A : List Int) : glv n A 0 = A := by
  refine List.ext_getElem? fun i => ?_
  by_cases h : i < A.length
  · rw [glv_get h, Int.add_zero, lq_at h, List.getElem?_eq_getElem h]
  · rw [List.getElem?_eq_none (by rw [glv_len]; omega), List.getElem?_eq_none (by omega)]
end Ap


/-! P10: the nearest way, by turning on; the least number of turns. -/
namespace Ap
section
variable {n : Nat} {A A' B F : List Int} {c a e : Int}
/-- one token of the row goes on -/
theorem goneL_gl (hA : Bks n A) (k : Int) {i : Nat} (hi : i < A.length) (he : e = 1 ∨ e = -1) (hn : wrp n (lq n A (i + k) + e) ∉ A) (ea : a = wrp n (lq n A (i + k))) :
    a ∈ A ∧ wrp n (a + e) ∉ A ∧ wrp n (max a (a + e)) = wrp n (max (lq n A (i + k)) (lq n A (i + k) + e)) ∧ Bks n (goneL n A a e) ∧ (goneL n A a e).length = A.length ∧ ∃ k', glv n (goneL n A a e) k' = (glv n A k).set i (lq n A (i + k) + e) := by
  obtain ⟨t, r, hr, et⟩ := dec_i hA.pos (i + k)
  rw [et] at hn ea ⊢
  rw [lq_eq hr] at hn ea ⊢
  have hm := hA.mem _ (List.getElem_mem hr)
  rw [wrp_add, wrp_id hm.1 hm.2] at ea
  subst ea
  have hn' : wrp n (A[r] + e) ∉ A := by
    rw [show A[r] + n * t + e = A[r] + e + n * t by omega, wrp_add] at hn
    exact hn
  obtain ⟨h1, h2, d, hd⟩ := goneL_q hA hr he hn'
  refine ⟨List.getElem_mem hr, hn', ?_, h1, h2, k + d, ?_⟩
  · rw [show max (A[r] + n * t) (A[r] + n * t + e) = max A[r] (A[r] + e) + n * t by omega, wrp_add]
  · refine List.ext_getElem? fun j => ?_
    rw [List.getElem?_set, glv_len]
    by_cases hj : j < A.length
    · rw [glv_get (by rw [h2]; exact hj), show (j : Int) + (k + d) = j + k + d by omega, hd, glv_get hj]
      by_cases z : i = j
      · subst z
        rw [if_pos rfl, if_pos hi, et, md_r hr, if_pos rfl, lq_eq hr]
      · rw [if_neg z, if_neg, Int.add_zero]
        intro y
        refine z ?_
        obtain ⟨t', r', hr', et'⟩ := dec_i hA.pos (j + k)
        rw [et', md_r hr'] at y
        have y : r' = r := by omega
        subst y
        have e2 : (i : Int) - j = A.length * (t - t') := by rw [Int.mul_sub]; omega
        generalize t - t' = u at e2
        rcases Int.lt_trichotomy u 0 with l | l | l
        · have : (A.length : Int) * u ≤ A.length * (-1) := Int.mul_le_mul_of_nonneg_left (by omega) (by omega)
          omega
        · rw [l] at e2; omega
        · have : (A.length : Int) * 1 ≤ A.length * u := Int.mul_le_mul_of_nonneg_left (by omega) (by omega)
          omega
    · rw [List.getElem?_eq_none (by rw [glv_len, h2]; omega)]
      split
      · omega
      · rw [List.getElem?_eq_none (by rw [glv_len]; omega)]
theorem lq_wrp (hA : Bks n A) (i t d : Int) : wrp n (lq n A (i + A.length * t) + d) = wrp n (lq n A i + d) := by
  rw [lq_per hA.pos, show lq n A i + n * t + d = lq n A i + d + n * t by omega, wrp_add]
/-- a row that is not where it goes has one that can go on -/
theorem movable (hA : Bks n A) (hB : Bks n B) (hl : B.length = A.length) (k l : Int) (ne : glv n A k ≠ glv n B l) :
    ∃ (i : Nat) (e : Int), i < A.length ∧ (e = 1 ∧ lq n A (i + k) < lq n B (i + l) ∨ e = -1 ∧ lq n B (i + l) < lq n A (i + k)) ∧ wrp n (lq n A (i + k) + e) ∉ A := by
  refine Classical.byContradiction fun z => ?_
  have h1 : ∀ i : Int, lq n A (i + k) < lq n B (i + l) → wrp n (lq n A (i + k) + 1) ∈ A := fun i hi => by
    refine Classical.byContradiction fun y => z ?_
    obtain ⟨t, r, hr, rfl⟩ := dec_i hA.pos i
    refine ⟨r, 1, hr, .inl ⟨rfl, ?_⟩, ?_⟩
    · rw [show (A.length : Int) * t + r + k = r + k + A.length * t by omega, show (A.length : Int) * t + r + l = r + l + B.length * t by rw [hl]; omega, lq_per hA.pos, lq_per hB.pos] at hi
      omega
    · rw [show (A.length : Int) * t + r + k = r + k + A.length * t by omega, lq_wrp hA] at y
      exact y
  have h2 : ∀ i : Int, lq n B (i + l) < lq n A (i + k) → wrp n (lq n A (i + k) + -1) ∈ A := fun i hi => by
    refine Classical.byContradiction fun y => z ?_
    obtain ⟨t, r, hr, rfl⟩ := dec_i hA.pos i
    refine ⟨r, -1, hr, .inr ⟨rfl, ?_⟩, ?_⟩
    · rw [show (A.length : Int) * t + r + k = r + k + A.length * t by omega, show (A.length : Int) * t + r + l = r + l + B.length * t by rw [hl]; omega, lq_per hA.pos, lq_per hB.pos] at hi
      omega
    · rw [show (A.length : Int) * t + r + k = r + k + A.length * t by omega, lq_wrp hA] at y
      exact y
  have : ∃ i : Nat, i < A.length ∧ lq n A (i + k) ≠ lq n B (i + l) := Classical.byContradiction fun y => ne (by
    refine List.ext_getElem? fun i => ?_
    by_cases hi : i < A.length
    · rw [glv_get hi, glv_get (by omega)]
      exact congrArg some (Classical.byContradiction fun x => y ⟨i, hi, x⟩)
    · rw [List.getElem?_eq_none (by rw [glv_len]; omega), List.getElem?_eq_none (by rw [glv_len]; omega)])
  obtain ⟨i, hi, ni⟩ := this
  have hlt := hA.lt
  have hp := hA.pos
  rcases Int.lt_or_gt_of_ne ni with lt | gt
  · have st : ∀ m : Nat, lq n A (i + m + k) = lq n A (i + k) + m ∧ lq n A (i + m + k) < lq n B (i + m + l) := fun m => by
      induction m with
      | zero => simpa using lt
      | succ m ih =>
        obtain ⟨a1, a2⟩ := ih
        obtain ⟨j, hj⟩ := (lq_res hA _).mp (h1 _ a2)
        have b1 := mono_lt (lq_succ hA) (i := i + m + k) (j := j) (by omega)
        have b2 := lq_succ hA (i + m + k)
        have b3 := lq_succ hB (i + m + l)
        have b4 : lq n A (i + m + k + 1) ≤ lq n A j := by
          rcases Int.lt_trichotomy (i + m + k + 1) j with z | z | z
          · have := mono_of (lq_succ hA) z; omega
          · rw [z]; omega
          · omega
        rw [show (i : Int) + ((m + 1 : Nat) : Int) + k = i + m + k + 1 by omega, show (i : Int) + ((m + 1 : Nat) : Int) + l = i + m + l + 1 by omega]
        omega
    have := (st A.length).1
    have p := lq_per (n := n) hp (i + k) 1
    rw [show (i : Int) + A.length + k = i + k + A.length * 1 by omega] at this
    omega
  · have st : ∀ m : Nat, lq n A (i - m + k) = lq n A (i + k) - m ∧ lq n B (i - m + l) < lq n A (i - m + k) := fun m => by
      induction m with
      | zero => simpa using gt
      | succ m ih =>
        obtain ⟨a1, a2⟩ := ih
        obtain ⟨j, hj⟩ := (lq_res hA _).mp (h2 _ a2)
        have b1 := mono_lt (lq_succ hA) (i := j) (j := i - m + k) (by omega)
        have b2 := lq_succ hA (i - m + k - 1)
        have b3 := lq_succ hB (i - m + l - 1)
        rw [show (i : Int) - m + k - 1 + 1 = i - m + k by omega] at b2
        rw [show (i : Int) - m + l - 1 + 1 = i - m + l by omega] at b3
        have b4 : lq n A j ≤ lq n A (i - m + k - 1) := by
          rcases Int.lt_trichotomy j (i - m + k - 1) with z | z | z
          · have := mono_of (lq_succ hA) z; omega
          · rw [z]; omega
          · omega
        rw [show (i : Int) - ((m + 1 : Nat) : Int) + k = i - m + k - 1 by omega, show (i : Int) - ((m + 1 : Nat) : Int) + l = i - m + l - 1 by omega]
        omega
    have := (st A.length).1
    have p := lq_per (n := n) hp (i - A.length + k) 1
    rw [show (i : Int) - A.length + k + A.length * 1 = i + k by omega] at p
    omega
/-- two lots whose rows are the same are the same -/
theorem glv_inj (hA : Bks n A) (hB : Bks n B) {k l : Int} (h : glv n A k = glv n B l) : A = B := by
  have hl : A.length = B.length := by rw [← glv_len n A k, h, glv_len]
  have key : ∀ {A B : List Int} {k l : Int}, Bks n A → Bks n B → A.length = B.length → glv n A k = glv n B l → ∀ x ∈ A, x ∈ B := fun {A B k l} hA hB hl h x hx => by
    obtain ⟨m1, m2⟩ := hA.mem x hx
    obtain ⟨i, hi⟩ := (lq_res hA x).mp (by rw [wrp_id m1 m2]; exact hx)
    obtain ⟨t, r, hr, et⟩ := dec_i hA.pos (i - k)
    have e1 : (glv n A k)[r]? = some (lq n A (r + k)) := glv_get hr
    rw [h, glv_get (by omega)] at e1
    have e1 := Option.some.inj e1
    rw [show i = r + k + A.length * t by omega, lq_per hA.pos] at hi
    have := (lq_res hB x).mpr ⟨r + l + B.length * t, by rw [lq_per hB.pos]; omega⟩
    rwa [wrp_id m1 m2] at this
  exact asc_ext hA.asc hB.asc fun x => ⟨key hA hB hl h x, key hB hA hl.symm h.symm x⟩
theorem goneL_back (hA : Bks n A) (he : e = 1 ∨ e = -1) (ha : a ∈ A) (hn : wrp n (a + e) ∉ A) : goneL n (goneL n A a e) (wrp n (a + e)) (-e) = A := by
  have hm := hA.mem a ha
  refine asc_ext (filter_asc n _) hA.asc fun x => ?_
  obtain ⟨r, hr, er⟩ := List.getElem_of_mem ha
  obtain ⟨h1, _⟩ := goneL_q hA hr he (by rw [er]; exact hn)
  rw [er] at h1
  rw [goneL_mem h1, goneL_mem hA, wrp_wrp, show a + e + -e = a by omega, wrp_id hm.1 hm.2]
  constructor
  · rintro (h | ⟨h, h' | h'⟩)
    · rw [h]; exact ha
    · exact absurd h' h
    · exact h'.2
  · intro h
    by_cases z : x = a
    · exact .inl z
    · exact .inr ⟨fun y => hn (y ▸ h), .inr ⟨z, h⟩⟩
/-- the same call leads back -/
theorem tnd_back (hA : Bks n A) (hc : c ∈ up n) (h : tnd n A c = some A') : Bks n A' ∧ A'.length = A.length ∧ tnd n A' c = some A := by
  obtain ⟨a, e, he, ha, hn, ec, rfl⟩ := (tnd_some hA hc).mp h
  obtain ⟨r, hr, er⟩ := List.getElem_of_mem ha
  obtain ⟨h1, h2, _⟩ := goneL_q hA hr he (by rw [er]; exact hn)
  rw [er] at h1 h2
  have hm := hA.mem a ha
  refine ⟨h1, h2, (tnd_some h1 hc).mpr ⟨wrp n (a + e), -e, by omega, (goneL_mem hA).mpr (.inl rfl), ?_, ?_, (goneL_back hA he ha hn).symm⟩⟩
  · rw [wrp_wrp, show a + e + -e = a by omega, wrp_id hm.1 hm.2, goneL_mem hA]
    rintro (h | h)
    · exact hn (h ▸ ha)
    · exact h.1 rfl
  · rw [ec]
    obtain ⟨t, et⟩ := wrp_dec n (a + e)
    generalize wrp n (a + e) = w at et ⊢
    have e1 : max w (w + -e) = max a (a + e) + n * (-t) := by rw [Int.mul_neg]; omega
    rw [e1, wrp_add]
/-! ### the least way -/
/-- m is the least of all ways from F to A -/
def Leas (n : Nat) (F A : List Int) (m : Nat) : Prop := (∃ k, farL F (glv n A k) = m) ∧ ∀ k, m ≤ farL F (glv n A k)
theorem Leas.uniq {m m' : Nat} (h : Leas n F A m) (h' : Leas n F A m') : m = m' := by
  obtain ⟨⟨k, e⟩, l⟩ := h
  obtain ⟨⟨k', e'⟩, l'⟩ := h'
  have := l k'
  have := l' k
  omega
/-- only so many places on need be looked at -/
theorem leas_of (hF : Bks n F) (hA : Bks n A) (hl : F.length = A.length) {m : Nat} (h : ∃ k, farL F (glv n A k) = m) (h' : ∀ k : Int, -(A.length : Int) ≤ k → k ≤ A.length → m ≤ farL F (glv n A k)) : Leas n F A m := by
  refine ⟨h, fun k => ?_⟩
  have hp := hA.pos
  have mo : ∀ {i j : Int}, i ≤ j → lq n A i ≤ lq n A j := fun {i j} h => by
    rcases Int.lt_or_eq_of_le h with z | z
    · have := mono_of (lq_succ hA) z; omega
    · rw [z]; omega
  rcases Int.lt_or_le k (-(A.length : Int)) with z | z
  · refine Nat.le_trans (h' (-(A.length : Int)) (by omega) (by omega)) (farL_le (by rw [glv_len]; exact hl) (by rw [glv_len]; exact hl) fun i x y w hx hy hw => ?_)
    have hi : i < A.length := by have := (List.getElem?_eq_some_iff.mp hx).1; omega
    rw [glv_get hi] at hy hw
    obtain rfl := Option.some.inj hy
    obtain rfl := Option.some.inj hw
    have hx := hF.mem x (List.mem_of_getElem? hx)
    have a1 : lq n A (i + -(A.length : Int)) = lq n A i - n := by
      rw [show (i : Int) + -(A.length : Int) = i + A.length * (-1) by omega, lq_per hp]; omega
    have a2 := hA.mem _ (List.getElem_mem hi)
    rw [← lq_at (n := n) hi] at a2
    have a3 := mo (i := i + k) (j := i + -(A.length : Int)) (by omega)
    omega
  · rcases Int.lt_or_le (A.length : Int) k with z' | z'
    · refine Nat.le_trans (h' (A.length : Int) (by omega) (by omega)) (farL_le (by rw [glv_len]; exact hl) (by rw [glv_len]; exact hl) fun i x y w hx hy hw => ?_)
      have hi : i < A.length := by have := (List.getElem?_eq_some_iff.mp hx).1; omega
      rw [glv_get hi] at hy hw
      obtain rfl := Option.some.inj hy
      obtain rfl := Option.some.inj hw
      have hx := hF.mem x (List.mem_of_getElem? hx)
      have a1 : lq n A (i + (A.length : Int)) = lq n A i + n := by
        rw [show (i : Int) + (A.length : Int) = i + A.length * 1 by omega, lq_per hp]; omega
      have a2 := hA.mem _ (List.getElem_mem hi)
      rw [← lq_at (n := n) hi] at a2
      have a3 := mo (i := i + (A.length : Int)) (j := i + k) (by omega)
      omega
    · exact h' k z z'
theorem leas_ex (hF : Bks n F) (hA : Bks n A) (hl : F.length = A.length) : ∃ m, Leas n F A m := by
  have : ∀ b : Nat, (∃ k, farL F (glv n A k) ≤ b) → ∃ m, (∃ k, farL F (glv n A k) = m) ∧ ∀ k, m ≤ farL F (glv n A k) := fun b => by
    induction b with
    | zero =>
      rintro ⟨k, hk⟩
      exact ⟨0, ⟨k, by omega⟩, fun _ => Nat.zero_le _⟩
    | succ b ih =>
      rintro ⟨k, hk⟩
      by_cases z : ∃ k, farL F (glv n A k) ≤ b
      · exact ih z
      · refine ⟨b + 1, ⟨k, ?_⟩, fun k' => ?_⟩
        · have : ¬ farL F (glv n A k) ≤ b := fun y => z ⟨k, y⟩
          omega
        · have : ¬ farL F (glv n A k') ≤ b := fun y => z ⟨k', y⟩
          omega
  exact this _ ⟨0, Nat.le_refl _⟩
theorem leas_zero (hF : Bks n F) (hA : Bks n A) (hl : F.length = A.length) : Leas n F A 0 ↔ A = F := by
  constructor
  · rintro ⟨⟨k, hk⟩, _⟩
    have := (farL_zero (by rw [glv_len]; exact hl)).mp hk
    rw [← glv_zero n F] at this
    exact (glv_inj hF hA this).symm
  · rintro rfl
    exact ⟨⟨0, by rw [glv_zero]; exact (farL_zero rfl).mpr rfl⟩, fun _ => Nat.zero_le _⟩
/-- one turn leads one further at most -/
theorem leas_step (hA : Bks n A) (hl : F.length = A.length) (hc : c ∈ up n) (h : tnd n A c = some A') {m m' : Nat} (h1 : Leas n F A m) (h2 : Leas n F A' m') : m' ≤ m + 1 := by
  obtain ⟨a, e, he, ha, hn, ec, rfl⟩ := (tnd_some hA hc).mp h
  obtain ⟨r, hr, er⟩ := List.getElem_of_mem ha
  obtain ⟨⟨k, hk⟩, _⟩ := h1
  -- the place of a in the row from k on
  obtain ⟨t, i, hi, et⟩ := dec_i hA.pos (r - k)
  have eq : lq n A (i + k) = a + n * (-t) := by
    rw [show (i : Int) + k = r + A.length * (-t) by rw [Int.mul_neg]; omega, lq_per hA.pos, lq_at hr, er]
  have hm := hA.mem a ha
  obtain ⟨_, _, _, _, _, k', e'⟩ := goneL_gl (a := a) hA k hi he (by rw [eq, show a + n * (-t) + e = a + e + n * (-t) by omega, wrp_add]; exact hn) (by rw [eq, wrp_add, wrp_id hm.1 hm.2])
  have := h2.2 k'
  rw [e'] at this
  have hF : i < F.length := by omega
  have s := farL_set (z := lq n A (i + k) + e) (List.getElem?_eq_getElem hF) (glv_get (n := n) (k := k) hi)
  omega
end
end Ap


/-! P11: the turns that the program tells. -/
namespace Ap
section
variable {n : Nat} {A A' B F : List Int} {c a e : Int}
/-- one turn nearer -/
theorem leas_prev (hF : Bks n F) (hA : Bks n A) (hl : F.length = A.length) {m : Nat} (h : Leas n F A (m + 1)) :
    ∃ A' c, c ∈ up n ∧ Bks n A' ∧ A'.length = A.length ∧ tnd n A' c = some A ∧ Leas n F A' m := by
  obtain ⟨⟨k, hk⟩, hm⟩ := h
  have ne : glv n A k ≠ glv n F 0 := fun z => by
    rw [glv_zero] at z
    rw [z, (farL_zero rfl).mpr rfl] at hk
    omega
  obtain ⟨i, e, hi, hs, hn⟩ := movable hA hF hl k 0 ne
  have he : e = 1 ∨ e = -1 := hs.elim (fun h => .inl h.1) fun h => .inr h.1
  obtain ⟨a1, a2, _, a4, a5, k', a6⟩ := goneL_gl hA k hi he hn rfl
  generalize wrp n (lq n A (i + k)) = a at a1 a2 a4 a5 a6
  have hc : wrp n (max a (a + e)) ∈ up n := up_mem.mpr (wrp_mem (by have := hA.lt; omega) _)
  have ht : tnd n A (wrp n (max a (a + e))) = some (goneL n A a e) := (tnd_some hA hc).mpr ⟨a, e, he, a1, a2, rfl, rfl⟩
  obtain ⟨_, _, hb⟩ := tnd_back hA hc ht
  have hFi : i < F.length := by omega
  have s := farL_set (z := lq n A (i + k) + e) (List.getElem?_eq_getElem hFi) (glv_get (n := n) (k := k) hi)
  rw [← a6] at s
  have ef : lq n F (i + 0) = F[i] := by rw [Int.add_zero]; exact lq_at hFi
  rw [ef] at hs
  obtain ⟨m', hm'⟩ := leas_ex hF a4 (by omega)
  have l1 := hm'.2 k'
  have l2 := leas_step (F := F) a4 (by omega) hc hb hm' ⟨⟨k, hk⟩, hm⟩
  have : m' = m := by rcases hs with ⟨rfl, h⟩ | ⟨rfl, h⟩ <;> omega
  subst this
  exact ⟨_, _, hc, a4, a5, hb, hm'⟩
theorem res_mem (hA : Bks n A) (k y : Int) : y % n ∈ (glv n A k).map (· % (n : Int)) ↔ wrp n y ∈ A := by
  constructor
  · intro h
    obtain ⟨x, hx, e⟩ := List.mem_map.mp h
    obtain ⟨i, hi, ei⟩ := List.getElem_of_mem hx
    rw [glv_len] at hi
    have := glv_get (n := n) (k := k) hi
    rw [List.getElem?_eq_getElem (by rw [glv_len]; exact hi), ei] at this
    obtain rfl := Option.some.inj this
    rw [← wrp_eq.mpr e]
    exact (lq_res hA _).mpr ⟨_, rfl⟩
  · intro h
    obtain ⟨j, hj⟩ := (lq_res hA y).mp h
    obtain ⟨t, r, hr, et⟩ := dec_i hA.pos (j - k)
    refine List.mem_map.mpr ⟨lq n A (r + k), List.mem_of_getElem? (glv_get hr), ?_⟩
    rw [show j = r + k + A.length * t by omega, lq_per hA.pos] at hj
    rw [← hj, Int.add_mul_emod_self_left]
/-- one look of the program at a token -/
def stp (n : Nat) (gs : List Int) (st : List Int × List Int) (i : Nat) : List Int × List Int :=
  let x := st.1.getD i 0
  let g := gs.getD i 0
  let e : Int := (if x < g then 1 else 0) - (if g < x then 1 else 0)
  if e ≠ 0 ∧ (x + e) % n ∉ st.1.map (· % (n : Int)) then (st.1.set i (x + e), st.2 ++ [wrp n (max x (x + e))]) else st
def pass (n : Nat) (gs : List Int) (st : List Int × List Int) : List Int × List Int := (List.range gs.length).foldl (stp n gs) st
/-- the lot A, turned on by calls -/
def trn (n : Nat) (A cs : List Int) : Option (List Int) := cs.foldl (fun o c => o.bind fun A => tnd n A c) (some A)
theorem trn_snoc (n : Nat) (A cs : List Int) (c : Int) : trn n A (cs ++ [c]) = (trn n A cs).bind fun A => tnd n A c := by
  unfold trn
  rw [List.foldl_append]; rfl
theorem trn_none (n : Nat) : ∀ cs : List Int, cs.foldl (fun o c => o.bind fun A => tnd n A c) none = none
  | [] => rfl
  | _ :: cs => trn_none n cs
theorem trn_cons (n : Nat) (A cs : List Int) (c : Int) : trn n A (c :: cs) = (tnd n A c).bind fun A' => trn n A' cs := by
  unfold trn
  rw [List.foldl_cons]
  show List.foldl _ (tnd n A c) cs = _
  cases tnd n A c with
  | none => exact trn_none n cs
  | some A' => rfl
/-- what holds while the program turns on: from A0, goals gs, w the way from there -/
def TIv (n : Nat) (A0 gs : List Int) (w : Nat) (st : List Int × List Int) : Prop := ∃ A k, Bks n A ∧ A.length = gs.length ∧ st.1 = glv n A k ∧ trn n A0 st.2 = some A ∧ (∀ c ∈ st.2, c ∈ up n) ∧ st.2.length + farL st.1 gs = w
theorem getD_glv {k : Int} {i : Nat} (h : i < A.length) : (glv n A k).getD i 0 = lq n A (i + k) := by
  rw [List.getD_eq_getElem?_getD, glv_get h]; rfl
theorem stp_ti {A0 : List Int} {l : Int} {w : Nat} {st : List Int × List Int} (hB : Bks n B) (h : TIv n A0 (glv n B l) w st) {i : Nat} (hi : i < B.length) :
    TIv n A0 (glv n B l) w (stp n (glv n B l) st i) ∧ (farL (stp n (glv n B l) st i).1 (glv n B l) < farL st.1 (glv n B l) ∨ stp n (glv n B l) st i = st) := by
  obtain ⟨sp, told⟩ := st
  obtain ⟨A, k, hA, hl, e1, e2, e3, e4⟩ := h
  rw [glv_len] at hl
  obtain rfl : sp = glv n A k := e1
  have hiA : i < A.length := by omega
  unfold stp
  simp only [getD_glv hiA, getD_glv hi]
  generalize he' : ((if lq n A (i + k) < lq n B (i + l) then 1 else 0 : Int) - (if lq n B (i + l) < lq n A (i + k) then 1 else 0)) = e
  by_cases z : e ≠ 0 ∧ (lq n A (i + k) + e) % n ∉ (glv n A k).map (· % (n : Int))
  · rw [if_pos z]
    have he : e = 1 ∨ e = -1 := by have := z.1; split at he' <;> split at he' <;> omega
    obtain ⟨a1, a2, a3, a4, a5, k', a6⟩ := goneL_gl hA k hiA he (fun y => z.2 ((res_mem hA k _).mpr y)) rfl
    have hc : wrp n (max (lq n A (i + k)) (lq n A (i + k) + e)) ∈ up n := up_mem.mpr (wrp_mem (by have := hA.lt; omega) _)
    have s := farL_set (z := lq n A (i + k) + e) (glv_get (n := n) (k := l) hi) (glv_get (n := n) (k := k) hiA)
    rw [farL_comm _ ((glv n A k).set _ _), farL_comm _ (glv n A k)] at s
    have ltn : farL ((glv n A k).set i (lq n A (i + k) + e)) (glv n B l) + 1 = farL (glv n A k) (glv n B l) := by
      split at he' <;> split at he' <;> omega
    refine ⟨⟨_, k', a4, by rw [a5, glv_len]; exact hl, a6.symm, ?_, fun c hc' => ?_, ?_⟩, .inl ?_⟩
    · show trn n A0 (told ++ [_]) = _
      rw [trn_snoc, e2]
      exact (tnd_some hA hc).mpr ⟨_, e, he, a1, a2, a3.symm, rfl⟩
    · rcases List.mem_append.mp hc' with h | h
      · exact e3 c h
      · rw [List.mem_singleton.mp h]; exact hc
    · show (told ++ [_]).length + farL ((glv n A k).set i (lq n A (i + k) + e)) (glv n B l) = w
      rw [List.length_append, List.length_singleton]
      have e4 : told.length + farL (glv n A k) (glv n B l) = w := e4
      omega
    · show farL ((glv n A k).set i (lq n A (i + k) + e)) (glv n B l) < farL (glv n A k) (glv n B l)
      omega
  · rw [if_neg z]
    exact ⟨⟨A, k, hA, by rw [glv_len]; exact hl, rfl, e2, e3, e4⟩, .inr rfl⟩
theorem pass_ti {A0 : List Int} {l : Int} {w : Nat} {st : List Int × List Int} (hB : Bks n B) (h : TIv n A0 (glv n B l) w st) :
    TIv n A0 (glv n B l) w (pass n (glv n B l) st) ∧ (st.1 ≠ glv n B l → farL (pass n (glv n B l) st).1 (glv n B l) < farL st.1 (glv n B l)) := by
  have key : ∀ m, m ≤ B.length → TIv n A0 (glv n B l) w ((List.range m).foldl (stp n (glv n B l)) st) ∧
      (farL ((List.range m).foldl (stp n (glv n B l)) st).1 (glv n B l) < farL st.1 (glv n B l) ∨ (List.range m).foldl (stp n (glv n B l)) st = st ∧ ∀ i < m, stp n (glv n B l) st i = st) := fun m => by
    induction m with
    | zero => exact fun _ => ⟨h, .inr ⟨rfl, fun i hi => absurd hi (by omega)⟩⟩
    | succ m ih =>
      intro hm
      obtain ⟨i1, i2⟩ := ih (by omega)
      rw [List.range_succ, List.foldl_append]
      show TIv n A0 (glv n B l) w (stp n (glv n B l) _ m) ∧ (farL (stp n (glv n B l) _ m).1 (glv n B l) < _ ∨ stp n (glv n B l) _ m = st ∧ _)
      obtain ⟨j1, j2⟩ := stp_ti hB i1 (i := m) (by omega)
      refine ⟨j1, ?_⟩
      rcases i2 with i2 | ⟨i2, i3⟩
      · refine .inl ?_
        rcases j2 with j2 | j2
        · omega
        · rw [j2]; exact i2
      · rw [i2] at j2 ⊢
        rcases j2 with j2 | j2
        · exact .inl j2
        · refine .inr ⟨j2, fun i hi => ?_⟩
          rcases Nat.lt_or_ge i m with z | z
          · exact i3 i z
          · obtain rfl : i = m := by omega
            exact j2
  obtain ⟨k1, k2⟩ := key B.length (Nat.le_refl _)
  unfold pass
  rw [glv_len]
  refine ⟨k1, fun ne => ?_⟩
  rcases k2 with k2 | ⟨_, k3⟩
  · exact k2
  · exfalso
    obtain ⟨sp, told⟩ := st
    obtain ⟨A, k, hA, hl, e1, _, _, _⟩ := h
    rw [glv_len] at hl
    obtain rfl : sp = glv n A k := e1
    obtain ⟨i, e, hi, hs, hn⟩ := movable hA hB (by omega) k l ne
    have hiB : i < B.length := by omega
    have z := k3 i hiB
    unfold stp at z
    simp only [getD_glv hi, getD_glv hiB] at z
    have he : ((if lq n A (i + k) < lq n B (i + l) then 1 else 0 : Int) - (if lq n B (i + l) < lq n A (i + k) then 1 else 0)) = e := by
      rcases hs with ⟨rfl, h⟩ | ⟨rfl, h⟩
      · rw [if_pos h, if_neg (by omega)]; rfl
      · rw [if_neg (by omega), if_pos h]; rfl
    rw [he, if_pos ⟨by rcases hs with ⟨rfl, _⟩ | ⟨rfl, _⟩ <;> decide, fun y => hn ((res_mem hA k _).mp y)⟩] at z
    have := congrArg (fun p => p.2.length) z
    simp at this
/-- what turns answers -/
def TurnsTo (n : Nat) (A gs cs : List Int) : Prop := ∃ k, (it (pass n gs) k (A, [])).1 = gs ∧ (∀ j < k, (it (pass n gs) j (A, [])).1 ≠ gs) ∧ cs = (it (pass n gs) k (A, [])).2
theorem TurnsTo.uniq {gs cs cs' : List Int} (h : TurnsTo n A gs cs) (h' : TurnsTo n A gs cs') : cs = cs' := by
  obtain ⟨k, a1, a2, a3⟩ := h
  obtain ⟨k', b1, b2, b3⟩ := h'
  rcases Nat.lt_trichotomy k k' with z | z | z
  · exact absurd a1 (b2 _ z)
  · subst z; rw [a3, b3]
  · exact absurd b1 (a2 _ z)
theorem ti_zero (hA : Bks n A) {gs : List Int} (hl : A.length = gs.length) : TIv n A gs (farL A gs) (A, []) :=
  ⟨A, 0, hA, hl, (glv_zero n A).symm, rfl, (fun c (h : c ∈ ([] : List Int)) => absurd h List.not_mem_nil), (Nat.zero_add _ : 0 + farL A gs = _)⟩
theorem ti_it {l : Int} (hA : Bks n A) (hB : Bks n B) (hl : A.length = B.length) : ∀ k, TIv n A (glv n B l) (farL A (glv n B l)) (it (pass n (glv n B l)) k (A, []))
  | 0 => ti_zero hA (by rw [glv_len]; exact hl)
  | k + 1 => by rw [it_succ]; exact (pass_ti hB (ti_it hA hB hl k)).1
theorem TurnsTo.right {l : Int} {cs : List Int} (hA : Bks n A) (hB : Bks n B) (hl : A.length = B.length) (h : TurnsTo n A (glv n B l) cs) : trn n A cs = some B ∧ cs.length = farL A (glv n B l) ∧ ∀ c ∈ cs, c ∈ up n := by
  obtain ⟨k, a1, _, rfl⟩ := h
  obtain ⟨A', k', h1, h2, h3, h4, h5, h6⟩ := ti_it (l := l) hA hB hl k
  rw [a1] at h3 h6
  rw [(farL_zero rfl).mpr rfl] at h6
  rw [h4, glv_inj h1 hB h3.symm]
  exact ⟨rfl, by omega, h5⟩
end
/-! ### lots of an order -/
theorem brk_bks {n : Nat} {o : List Int} (n2 : 2 ≤ n) (h : Stand n o) : Bks n (brk n o) := by
  refine ⟨filter_asc n _, fun x hx => up_mem.mp (brk_sub x hx), ?_, ?_⟩
  · have ho := h.length
    have hlast : o[n - 1]? = some (o[n - 1]'(by omega)) := List.getElem?_eq_getElem (by omega)
    generalize o[n - 1]'(by omega) = c at hlast
    have hc : c ∈ up n := h.mem.mp (List.mem_of_getElem? hlast)
    refine List.length_pos_of_mem (a := c) (brk_mem.mpr ⟨hc, ?_⟩)
    rw [idxOf_at h.nodup hlast]
    have hx := nx_mem (n := n) (c := c) (by omega)
    have e := at_idxOf (h.mem.mpr hx)
    have l := (List.getElem?_eq_some_iff.mp e).1
    have : o.idxOf (nx n c) ≠ n - 1 := fun z => by
      rw [z, hlast] at e
      exact nx_ne hc n2 (Option.some.inj e).symm
    omega
  · have ho := h.length
    have h0 : o[0]? = some (o[0]'(by omega)) := List.getElem?_eq_getElem (by omega)
    generalize o[0]'(by omega) = c at h0
    have hc : c ∈ up n := h.mem.mp (List.mem_of_getElem? h0)
    unfold brk
    have := (List.length_filter_lt_length_iff_exists (l := up n) (p := fun c => decide (o.idxOf (nx n c) < o.idxOf c))).mpr ⟨c, hc, by
      rw [decide_eq_true_eq, idxOf_at h.nodup h0]
      omega⟩
    rwa [up_length] at this
/-! ### alike orders make the same round -/
theorem step_moved {ts : List Tie} {n : Nat} {c : Int} (hc : c ∈ up n) : ∀ {pre : List Int} (row : List Int), (∀ x ∈ pre, x ∈ up n ∧ Far n x c) → step ts n (moved ts n row pre) c = moved ts n (step ts n row c) pre
  | [], row, _ => rfl
  | x :: pre, row, h => by
    have hx := h x List.mem_cons_self
    show step ts n (moved ts n (step ts n row x) pre) c = moved ts n (step ts n (step ts n row c) x) pre
    rw [step_moved hc _ fun y hy => h y (List.mem_cons_of_mem _ hy), step_comm hx.1 hc hx.2]
theorem idx_mid {pre suf : List Int} {c x : Int} (h : x ≠ c) : (pre ++ c :: suf).idxOf x = if x ∈ pre then pre.idxOf x else (pre ++ suf).idxOf x + 1 := by
  rw [List.idxOf_append, List.idxOf_append]
  split
  · rfl
  · rw [List.idxOf_cons, beq_false_of_ne (Ne.symm h)]
    show suf.idxOf x + 1 + pre.length = _
    omega
theorem idx_mid' {pre suf : List Int} {x : Int} : (pre ++ suf).idxOf x = if x ∈ pre then pre.idxOf x else (pre ++ suf).idxOf x := by
  split
  · rw [List.idxOf_append, if_pos (by assumption)]
  · rfl
/-- without c the others stand as before -/
theorem idx_erase {pre suf : List Int} {c x y : Int} (hx : x ≠ c) (hy : y ≠ c) : (pre ++ c :: suf).idxOf x < (pre ++ c :: suf).idxOf y ↔ (pre ++ suf).idxOf x < (pre ++ suf).idxOf y := by
  have px : x ∈ pre → pre.idxOf x < pre.length := fun h => List.idxOf_lt_length_iff.mpr h
  have py : y ∈ pre → pre.idxOf y < pre.length := fun h => List.idxOf_lt_length_iff.mpr h
  rw [idx_mid hx, idx_mid hy]
  by_cases h1 : x ∈ pre <;> by_cases h2 : y ∈ pre <;> simp only [List.idxOf_append, h1, h2, if_true, if_false]
  · have := px h1
    omega
  · have := py h2
    omega
  · omega
theorem same_moved {ts : List Tie} {n : Nat} : ∀ {l l' : List Int} (row : List Int), l.Perm l' → l.Nodup → (∀ x ∈ l, x ∈ up n) → (∀ x ∈ l, nx n x ∈ l → nx n x ≠ x → (l.idxOf x < l.idxOf (nx n x) ↔ l'.idxOf x < l'.idxOf (nx n x))) → moved ts n row l = moved ts n row l'
  | [], l', row, p, _, _, _ => by rw [p.symm.eq_nil]
  | c :: r, l', row, p, nd, hm, ho => by
    obtain ⟨n1, n2⟩ := List.nodup_cons.mp nd
    have nd' : l'.Nodup := p.nodup_iff.mp nd
    have hc' : c ∈ l' := p.mem_iff.mp List.mem_cons_self
    obtain ⟨pre, suf, rfl⟩ := List.append_of_mem hc'
    have hcup := hm c List.mem_cons_self
    have dj := List.nodup_append.mp nd'
    have cpre : c ∉ pre := fun z => dj.2.2 c z c List.mem_cons_self rfl
    have csuf : c ∉ suf := (List.nodup_cons.mp dj.2.1).1
    have p2 : r.Perm (pre ++ suf) := (p.trans List.perm_middle).cons_inv
    have i0 : (c :: r).idxOf c = 0 := by simp
    have ic : (pre ++ c :: suf).idxOf c = pre.length := by rw [List.idxOf_append, if_neg cpre]; simp
    have ix : ∀ x ∈ pre, (pre ++ c :: suf).idxOf x < pre.length := fun x hx => by
      rw [List.idxOf_append, if_pos hx]
      exact List.idxOf_lt_length_iff.mpr hx
    have far : ∀ x ∈ pre, x ∈ up n ∧ Far n x c := fun x hx => by
      have xc : x ≠ c := fun z => cpre (z ▸ hx)
      have xl : x ∈ c :: r := List.mem_cons_of_mem _ (p2.mem_iff.mpr (List.mem_append_left _ hx))
      have ix := ix x hx
      have ir : (c :: r).idxOf x = r.idxOf x + 1 := by rw [List.idxOf_cons, beq_false_of_ne (Ne.symm xc)]; rfl
      refine ⟨hm x xl, xc, fun z => ?_, fun z => ?_⟩
      · have := (ho x xl (by rw [z]; exact List.mem_cons_self) (by rw [z]; exact Ne.symm xc)).mpr (by rw [z, ic]; exact ix)
        rw [z, i0] at this
        omega
      · have := (ho c List.mem_cons_self (by rw [z]; exact xl) (by rw [z]; exact xc)).mp (by rw [z, i0, ir]; omega)
        rw [z, ic] at this
        omega
    rw [moved_app]
    show moved ts n (step ts n row c) r = moved ts n (step ts n (moved ts n row pre) c) suf
    rw [step_moved hcup row far, ← moved_app]
    refine same_moved _ p2 n2 (fun x hx => hm x (List.mem_cons_of_mem _ hx)) fun x hx hy hne => ?_
    have xc : x ≠ c := fun z => n1 (z ▸ hx)
    have yc : nx n x ≠ c := fun z => n1 (z ▸ hy)
    have := ho x (List.mem_cons_of_mem _ hx) (List.mem_cons_of_mem _ hy) hne
    rw [idx_erase xc yc] at this
    rw [← this, List.idxOf_cons, List.idxOf_cons, beq_false_of_ne (Ne.symm xc), beq_false_of_ne (Ne.symm yc)]
    show _ ↔ _ + 1 < _ + 1
    omega
theorem brk_same {ts : List Tie} {n : Nat} {o o' : List Int} (n2 : 2 ≤ n) (h : Stand n o) (h' : Stand n o') (e : brk n o = brk n o') (row : List Int) : moved ts n row o = moved ts n row o' := by
  refine same_moved row (h.trans h'.symm) h.nodup (fun x hx => h.mem.mp hx) fun x hx hy hne => ?_
  have hx' := h.mem.mp hx
  have := brk_eq.mp e x hx'
  rw [brk_mem, brk_mem] at this
  have ne : ∀ {o : List Int}, Stand n o → o.idxOf x ≠ o.idxOf (nx n x) := fun {o} h z => by
    have e1 := at_idxOf (h.mem.mpr hx')
    have e2 := at_idxOf (h.mem.mpr (nx_mem (n := n) (c := x) (by omega)))
    rw [z, e2] at e1
    exact hne (Option.some.inj e1)
  have a := ne h
  have b := ne h'
  constructor
  · intro z
    have : ¬ (o'.idxOf (nx n x) < o'.idxOf x) := fun y => by
      have := (this.mpr ⟨hx', y⟩).2
      omega
    omega
  · intro z
    have : ¬ (o.idxOf (nx n x) < o.idxOf x) := fun y => by
      have := (this.mp ⟨hx', y⟩).2
      omega
    omega
theorem nx_wrp {n : Nat} {c : Int} : nx n c = wrp n (c + 1) := by
  unfold nx wrp
  rw [show c + 1 - 1 = c by omega]
/-- an order turned on by its first or last call -/
theorem tnd_round {n : Nat} {o A' : List Int} {c : Int} (n2 : 2 ≤ n) (hS : Stand n o) (hc : c ∈ up n) (h : tnd n (brk n o) c = some A') :
    ∃ o', Stand n o' ∧ brk n o' = A' ∧ ∀ ts row, moved ts n row (c :: (o' ++ [c])) = moved ts n row o := by
  have hB := brk_bks n2 hS
  have hAasc : A'.Pairwise (· < ·) := (tnd_back hB hc h).1.asc
  obtain ⟨pre, suf, rfl⟩ := List.append_of_mem (hS.mem.mpr hc)
  have nd := hS.nodup
  have dj := List.nodup_append.mp nd
  have cpre : c ∉ pre := fun z => dj.2.2 c z c List.mem_cons_self rfl
  have csuf : c ∉ suf := (List.nodup_cons.mp dj.2.1).1
  have cr : c ∉ pre ++ suf := fun z => (List.mem_append.mp z).elim cpre csuf
  have hf : Stand n (c :: (pre ++ suf)) := List.perm_middle.symm.trans hS
  have hl : Stand n ((pre ++ suf) ++ [c]) := (List.perm_append_singleton _ _).trans hf
  have hin : ∀ x, x ∈ up n → x ≠ c → x ∈ pre ++ suf := fun x hx hne => by
    rcases List.mem_cons.mp (hf.mem.mpr hx) with z | z
    · exact absurd z hne
    · exact z
  have f0 : (c :: (pre ++ suf)).idxOf c = 0 := by simp
  have f1 : ∀ x, x ≠ c → (c :: (pre ++ suf)).idxOf x = (pre ++ suf).idxOf x + 1 := fun x hx => by rw [List.idxOf_cons, beq_false_of_ne (Ne.symm hx)]; rfl
  have l0 : ((pre ++ suf) ++ [c]).idxOf c = (pre ++ suf).length := by rw [List.idxOf_append, if_neg cr]; simp
  have l1 : ∀ x, x ∈ up n → x ≠ c → ((pre ++ suf) ++ [c]).idxOf x = (pre ++ suf).idxOf x ∧ (pre ++ suf).idxOf x < (pre ++ suf).length := fun x hx hne => by
    rw [List.idxOf_append, if_pos (hin x hx hne)]
    exact ⟨rfl, List.idxOf_lt_length_iff.mpr (hin x hx hne)⟩
  have hnx := nx_mem (n := n) (c := c) (by omega)
  have hnc := nx_ne hc n2
  -- the call to which c is next
  generalize hp : wrp n (c - 1) = p at h
  have hpu : p ∈ up n := by rw [← hp]; exact up_mem.mpr (wrp_mem (by omega) _)
  have npc : nx n p = c := by
    have := up_mem.mp hc
    rw [← hp, nx_wrp, wrp_wrp, show c - 1 + 1 = c by omega, wrp_id this.1 this.2]
  have pc : p ≠ c := fun z => hnc (by rw [z] at npc; exact npc)
  have oth : ∀ x ∈ up n, x ≠ c → x ≠ p → nx n x ≠ c := fun x hx h1 h2 z => h2 (nx_inj hx hpu (z.trans npc.symm))
  have mF : ∀ x, x ∈ brk n (c :: (pre ++ suf)) ↔ x = p ∨ x ≠ c ∧ x ≠ p ∧ x ∈ brk n (pre ++ c :: suf) := fun x => by
    rw [brk_mem, brk_mem]
    by_cases h1 : x = c
    · subst h1
      rw [f0]
      exact ⟨fun z => absurd z.2 (by omega), fun z => z.elim (fun z => absurd z.symm pc) fun z => absurd rfl z.1⟩
    · by_cases h2 : x = p
      · subst h2
        rw [npc, f0, f1 _ h1]
        exact ⟨fun _ => .inl rfl, fun _ => ⟨hpu, by omega⟩⟩
      · constructor
        · rintro ⟨hx, z⟩
          refine .inr ⟨h1, h2, hx, ?_⟩
          rw [idx_erase (oth x hx h1 h2) h1]
          rw [f1 _ h1, f1 _ (oth x hx h1 h2)] at z
          omega
        · rintro (z | ⟨_, _, hx, z⟩)
          · exact absurd z h2
          · rw [idx_erase (oth x hx h1 h2) h1] at z
            rw [f1 _ h1, f1 _ (oth x hx h1 h2)]
            exact ⟨hx, by omega⟩
  have mL : ∀ x, x ∈ brk n ((pre ++ suf) ++ [c]) ↔ x = c ∨ x ≠ c ∧ x ≠ p ∧ x ∈ brk n (pre ++ c :: suf) := fun x => by
    rw [brk_mem, brk_mem]
    by_cases h1 : x = c
    · subst h1
      rw [l0, (l1 _ hnx hnc).1]
      exact ⟨fun _ => .inl rfl, fun _ => ⟨hc, (l1 _ hnx hnc).2⟩⟩
    · by_cases h2 : x = p
      · subst h2
        rw [npc, l0, (l1 _ hpu h1).1]
        have := (l1 _ hpu h1).2
        exact ⟨fun z => absurd z.2 (by omega), fun z => z.elim (fun z => absurd z h1) fun z => absurd rfl z.2.1⟩
      · constructor
        · rintro ⟨hx, z⟩
          refine .inr ⟨h1, h2, hx, ?_⟩
          rw [idx_erase (oth x hx h1 h2) h1]
          rwa [(l1 _ hx h1).1, (l1 _ (nx_mem (by omega)) (oth x hx h1 h2)).1] at z
        · rintro (z | ⟨_, _, hx, z⟩)
          · exact absurd z h1
          · rw [idx_erase (oth x hx h1 h2) h1] at z
            rw [(l1 _ hx h1).1, (l1 _ (nx_mem (by omega)) (oth x hx h1 h2)).1]
            exact ⟨hx, z⟩
  unfold tnd at h
  rw [hp] at h
  split at h
  · cases h
  · rename_i z
    have h := Option.some.inj h
    unfold comC gonC at h
    rw [hp] at h
    by_cases h1 : c ∈ brk n (pre ++ c :: suf)
    · have h2 : p ∉ brk n (pre ++ c :: suf) := fun y => z ⟨fun _ => y, fun _ => h1⟩
      rw [if_pos h1, if_pos h1] at h
      have alike : brk n (pre ++ c :: suf) = brk n ((pre ++ suf) ++ [c]) := asc_ext (filter_asc n _) (filter_asc n _) fun x => by
        rw [mL]
        constructor
        · intro hx
          by_cases y : x = c
          · exact .inl y
          · exact .inr ⟨y, fun w => h2 (w ▸ hx), hx⟩
        · rintro (rfl | hx)
          · exact h1
          · exact hx.2.2
      refine ⟨c :: (pre ++ suf), hf, ?_, fun ts row => ?_⟩
      · refine asc_ext (filter_asc n _) hAasc fun x => ?_
        rw [mF, ← h, List.mem_filter, decide_eq_true_eq]
        constructor
        · rintro (rfl | ⟨h3, h4, h5⟩)
          · exact ⟨hpu, .inl rfl⟩
          · exact ⟨brk_sub x h5, .inr ⟨h3, h5⟩⟩
        · rintro ⟨_, h3 | ⟨h3, h4⟩⟩
          · exact .inl h3
          · exact .inr ⟨h3, fun w => h2 (w ▸ h4), h4⟩
      · rw [brk_same n2 hS hl alike]
        show moved ts n (step ts n (step ts n row c) c) ((pre ++ suf) ++ [c]) = _
        rw [step_step]
    · have h2 : p ∈ brk n (pre ++ c :: suf) := Classical.byContradiction fun y => z ⟨fun k => absurd k h1, fun k => absurd k y⟩
      rw [if_neg h1, if_neg h1] at h
      have alike : brk n (pre ++ c :: suf) = brk n (c :: (pre ++ suf)) := asc_ext (filter_asc n _) (filter_asc n _) fun x => by
        rw [mF]
        constructor
        · intro hx
          by_cases y : x = p
          · exact .inl y
          · exact .inr ⟨fun w => h1 (w ▸ hx), y, hx⟩
        · rintro (rfl | hx)
          · exact h2
          · exact hx.2.2
      refine ⟨(pre ++ suf) ++ [c], hl, ?_, fun ts row => ?_⟩
      · refine asc_ext (filter_asc n _) hAasc fun x => ?_
        rw [mL, ← h, List.mem_filter, decide_eq_true_eq]
        constructor
        · rintro (rfl | ⟨h3, h4, h5⟩)
          · exact ⟨hc, .inl rfl⟩
          · exact ⟨brk_sub x h5, .inr ⟨h4, h5⟩⟩
        · rintro ⟨_, h3 | ⟨h3, h4⟩⟩
          · exact .inl h3
          · exact .inr ⟨fun w => h1 (w ▸ h4), h3, h4⟩
      · rw [brk_same n2 hS hf alike]
        show moved ts n (step ts n row c) (((pre ++ suf) ++ [c]) ++ [c]) = moved ts n (step ts n row c) (pre ++ suf)
        rw [moved_snoc, moved_snoc, step_step]
/-- by the calls there, a round in the other order, and the calls backwards -/
theorem trn_round {n : Nat} {o' : List Int} (n2 : 2 ≤ n) (hS' : Stand n o') : ∀ {cs o : List Int}, Stand n o → (∀ c ∈ cs, c ∈ up n) → trn n (brk n o) cs = some (brk n o') → ∀ ts row, moved ts n row (cs ++ o' ++ cs.reverse) = moved ts n row o
  | [], o, hS, _, h, ts, row => by
    have h : brk n o = brk n o' := Option.some.inj h
    rw [brk_same n2 hS hS' h]
    simp
  | c :: cs, o, hS, hc, h, ts, row => by
    rw [trn_cons] at h
    cases e : tnd n (brk n o) c with
    | none => rw [e] at h; cases h
    | some A' =>
      rw [e] at h
      obtain ⟨o1, s1, b1, m1⟩ := tnd_round n2 hS (hc c List.mem_cons_self) e
      have h : trn n (brk n o1) cs = some (brk n o') := by rw [b1]; exact h
      have ih := trn_round n2 hS' s1 (fun d hd => hc d (List.mem_cons_of_mem _ hd)) h ts (step ts n row c)
      rw [← m1 ts row]
      show moved ts n (step ts n row c) (cs ++ o' ++ (c :: cs).reverse) = moved ts n (step ts n row c) (o1 ++ [c])
      rw [List.reverse_cons, ← List.append_assoc, moved_snoc, moved_snoc, ih]
end Ap


/-! P12: the best of the ways looked at so far. -/
namespace Ap
def bstep (n : Nat) (A B : List Int) (acc : Option (Nat × Int)) (k : Int) : Option (Nat × Int) := match acc with
  | none => some (farL A (glv n B k), k)
  | some (m, k0) => if farL A (glv n B k) < m then some (farL A (glv n B k), k) else some (m, k0)
def bst (n : Nat) (A B : List Int) : Nat → Option (Nat × Int)
  | 0 => none
  | i + 1 => bstep n A B (bst n A B i) (-(A.length : Int) + i)
theorem bst_spec (n : Nat) (A B : List Int) : ∀ i, 0 < i → ∃ m k, bst n A B i = some (m, k) ∧ (∃ j, j < i ∧ k = -(A.length : Int) + (j : Nat)) ∧ farL A (glv n B k) = m ∧ ∀ j : Nat, j < i → m ≤ farL A (glv n B (-(A.length : Int) + j))
  | 0, h => absurd h (by omega)
  | 1, _ => ⟨_, _, rfl, ⟨0, by omega, rfl⟩, rfl, fun j hj => by
    obtain rfl : j = 0 := by omega
    exact Nat.le_refl _⟩
  | i + 2, _ => by
    obtain ⟨m, k, e, ⟨j, hj, ek⟩, ef, hm⟩ := bst_spec n A B (i + 1) (by omega)
    by_cases z : farL A (glv n B (-(A.length : Int) + (i + 1 : Nat))) < m
    · refine ⟨_, _, ?_, ⟨i + 1, by omega, rfl⟩, rfl, fun j' hj' => ?_⟩
      · show bstep n A B (bst n A B (i + 1)) _ = _
        rw [e]
        exact if_pos z
      · rcases Nat.lt_or_ge j' (i + 1) with h | h
        · have := hm j' h; omega
        · obtain rfl : j' = i + 1 := by omega
          exact Nat.le_refl _
    · refine ⟨m, k, ?_, ⟨j, by omega, ek⟩, ef, fun j' hj' => ?_⟩
      · show bstep n A B (bst n A B (i + 1)) _ = _
        rw [e]
        exact if_neg z
      · rcases Nat.lt_or_ge j' (i + 1) with h | h
        · exact hm j' h
        · obtain rfl : j' = i + 1 := by omega
          omega
theorem bst_leas {n : Nat} {A B : List Int} (hA : Bks n A) (hB : Bks n B) (hl : A.length = B.length) {m : Nat} {k : Int} (h : bst n A B (2 * A.length + 1) = some (m, k)) : Leas n A B m ∧ farL A (glv n B k) = m := by
  obtain ⟨m', k', e, _, ef, hm⟩ := bst_spec n A B (2 * A.length + 1) (by omega)
  rw [h] at e
  obtain ⟨rfl, rfl⟩ := Prod.mk.inj (Option.some.inj e)
  refine ⟨leas_of hA hB hl ⟨k, ef⟩ fun k' h1 h2 => ?_, ef⟩
  have := hm (k' + A.length).toNat (by omega)
  rwa [show -(A.length : Int) + ((k' + A.length).toNat : Nat) = k' by omega] at this
/-- the sum of how far each goes, as the program reckons it -/
def farS (xs ys : List Int) : Int := (List.zipWith (fun x y => if x - y < 0 then -(x - y) else x - y) xs ys).sum
theorem farS_eq : ∀ xs ys : List Int, farS xs ys = (farL xs ys : Nat)
  | [], ys => by simp [farS, farL]
  | x :: xs, [] => by simp [farS, farL]
  | x :: xs, y :: ys => by
    have := farS_eq xs ys
    unfold farS farL at this ⊢
    rw [List.zipWith_cons_cons, List.zipWith_cons_cons, List.sum_cons, List.sum_cons, this]
    split <;> omega
end Ap


/-! P13: lots gone through layer by layer. -/
namespace Ap
open PySem L2
def kf (A : List Int) : List Key := A.map Sum.inl
theorem kf_kV (A : List Int) : (kf A).map kV = A.map V.int := by
  unfold kf
  rw [List.map_map]
  exact List.map_congr_left fun _ _ => rfl
theorem kf_inj {A B : List Int} (h : kf A = kf B) : A = B := by
  unfold kf at h
  induction A generalizing B with
  | nil => cases B with
    | nil => rfl
    | cons _ _ => cases h
  | cons a A ih => cases B with
    | nil => cases h
    | cons b B =>
      obtain ⟨h1, h2⟩ := List.cons.inj h
      rw [Sum.inl.inj h1, ih h2]
def subs : List Int → List (List Int)
  | [] => [[]]
  | a :: l => subs l ++ (subs l).map (a :: ·)
theorem subs_len : ∀ l : List Int, (subs l).length = 2 ^ l.length
  | [] => rfl
  | a :: l => by
    show (subs l ++ (subs l).map (a :: ·)).length = _
    rw [List.length_append, List.length_map, subs_len l, List.length_cons, Nat.pow_succ]
    omega
theorem subs_filter (p : Int → Bool) : ∀ l : List Int, l.filter p ∈ subs l
  | [] => List.mem_singleton.mpr rfl
  | a :: l => by
    rw [List.filter_cons]
    split
    · exact List.mem_append_right _ (List.mem_map.mpr ⟨_, subs_filter p l, rfl⟩)
    · exact List.mem_append_left _ (subs_filter p l)
section
variable {n : Nat} {A A' B F : List Int} {c : Int}
theorem bks_filter (h : Bks n A) : A = (up n).filter fun x => decide (x ∈ A) := asc_ext h.asc (filter_asc n _) fun x => by
  rw [List.mem_filter, decide_eq_true_eq]
  exact ⟨fun hx => ⟨up_mem.mpr (h.mem x hx), hx⟩, fun hx => hx.2⟩
theorem bks_subs (h : Bks n A) : A ∈ subs (up n) := by
  rw [bks_filter h]
  exact subs_filter _ _
theorem bks_few {As : List (List Int)} (nd : As.Nodup) (h : ∀ A ∈ As, Bks n A) : As.length ≤ 2 ^ n := by
  have := nodup_le' (D := subs (up n)) nd fun A hA => bks_subs (h A hA)
  rwa [subs_len, up_length] at this
theorem leas_down (hF : Bks n F) : ∀ {m d : Nat} {A : List Int}, Bks n A → F.length = A.length → Leas n F A m → d ≤ m → ∃ B, Bks n B ∧ B.length = F.length ∧ Leas n F B d
  | 0, d, A, hA, hl, h, hd => ⟨A, hA, hl.symm, by
    obtain rfl : d = 0 := by omega
    exact h⟩
  | m + 1, d, A, hA, hl, h, hd => by
    rcases Nat.lt_or_ge m d with z | z
    · obtain rfl : d = m + 1 := by omega
      exact ⟨A, hA, hl.symm, h⟩
    · obtain ⟨A', c, _, h1, h2, _, h3⟩ := leas_prev hF hA hl h
      exact leas_down hF h1 (by omega) h3 z
/-- what is found: all lots up to d turns away, and those of Ws, that are d + 1 turns away -/
structure BF (n : Nat) (F : List Int) (d : Nat) (Ws : List (List Int)) (kvs : List (List Key × V)) : Prop where
  keys : ∃ As : List (List Int), kvs.map (·.1) = As.map kf ∧ As.Nodup ∧ ∀ A ∈ As, Bks n A
  val : ∀ A m, Bks n A → A.length = F.length → Leas n F A m → valV kvs (kf A) = if m ≤ d ∨ A ∈ Ws then some (.int (m : Nat)) else none
  ws : ∀ A ∈ Ws, Bks n A ∧ A.length = F.length ∧ Leas n F A (d + 1)
  nd : Ws.Nodup
theorem BF.few {d : Nat} {Ws : List (List Int)} {kvs : List (List Key × V)} (h : BF n F d Ws kvs) : kvs.length ≤ 2 ^ n := by
  obtain ⟨As, e, nd, hA⟩ := h.keys
  have := bks_few nd hA
  rw [← List.length_map (f := fun x : List Key × V => x.1), e, List.length_map]
  exact this
theorem BF.fewW {d : Nat} {Ws : List (List Int)} {kvs : List (List Key × V)} (h : BF n F d Ws kvs) : Ws.length ≤ 2 ^ n := bks_few h.nd fun A hA => (h.ws A hA).1
theorem BF.start (hF : Bks n F) : BF n F 0 [] [(kf F, .int 0)] := by
  refine ⟨⟨[F], rfl, List.nodup_cons.mpr ⟨List.not_mem_nil, List.nodup_nil⟩, fun A h => by rw [List.mem_singleton.mp h]; exact hF⟩, fun A m hA hl h => ?_, (fun A h => nomatch h), List.nodup_nil⟩
  by_cases z : A = F
  · subst z
    obtain rfl := h.uniq ((leas_zero hA hA rfl).mpr rfl)
    rw [if_pos (.inl (Nat.le_refl _))]
    unfold valV
    rw [List.find?_cons_of_pos (by exact decide_eq_true rfl)]
    rfl
  · have : ¬ (m ≤ 0 ∨ A ∈ ([] : List (List Int))) := by
      rintro (y | y)
      · obtain rfl : m = 0 := by omega
        exact z ((leas_zero hF hA hl.symm).mp h)
      · exact List.not_mem_nil y
    rw [if_neg this]
    unfold valV
    rw [List.find?_eq_none.mpr]
    · rfl
    · intro x hx y
      rw [List.mem_singleton.mp hx] at y
      exact z (kf_inj (of_decide_eq_true y)).symm
/-- a lot that is found for the first time -/
theorem BF.add {d : Nat} {Ws : List (List Int)} {kvs : List (List Key × V)} (hF : Bks n F) (h : BF n F d Ws kvs) (hA : Bks n A) (hl : A.length = F.length) (hL : Leas n F A d) (hc : c ∈ up n) (ht : tnd n A c = some A') (hv : valV kvs (kf A') = none) :
    Leas n F A' (d + 1) ∧ BF n F d (Ws ++ [A']) (putK kvs (kf A') (.int ((d : Nat) + 1))) := by
  obtain ⟨b1, b2, _⟩ := tnd_back hA hc ht
  obtain ⟨m, hm⟩ := leas_ex hF b1 (by omega)
  have l1 := leas_step hA hl.symm hc ht hL hm
  have v1 := h.val A' m b1 (by omega) hm
  rw [hv] at v1
  have nv : ¬ (m ≤ d ∨ A' ∈ Ws) := fun z => by
    rw [if_pos z] at v1
    cases v1
  have em : m = d + 1 := by
    have : ¬ m ≤ d := fun z => nv (.inl z)
    omega
  subst em
  refine ⟨hm, ?_, fun B m hB hBl hBm => ?_, fun B hB => ?_, List.nodup_append.mpr ⟨h.nd, List.nodup_cons.mpr ⟨List.not_mem_nil, List.nodup_nil⟩, fun x hx y hy z => ?_⟩⟩
  · obtain ⟨As, e, nd, hAs⟩ := h.keys
    rw [putK_new _ hv]
    refine ⟨As ++ [A'], by rw [List.map_append, List.map_append, e]; rfl, ?_, fun B hB => ?_⟩
    · refine List.nodup_append.mpr ⟨nd, List.nodup_cons.mpr ⟨List.not_mem_nil, List.nodup_nil⟩, fun x hx y hy z => ?_⟩
      rw [List.mem_singleton.mp hy] at z
      subst z
      have : kf x ∈ kvs.map (·.1) := by rw [e]; exact List.mem_map.mpr ⟨x, hx, rfl⟩
      obtain ⟨kv, hkv, ek⟩ := List.mem_map.mp this
      unfold valV at hv
      rw [Option.map_eq_none_iff, List.find?_eq_none] at hv
      exact hv kv hkv (decide_eq_true ek)
    · rcases List.mem_append.mp hB with z | z
      · exact hAs B z
      · rw [List.mem_singleton.mp z]; exact b1
  · rw [valV_put]
    by_cases z : B = A'
    · subst z
      rw [if_pos rfl, if_pos (.inr (List.mem_append_right _ (List.mem_singleton.mpr rfl))), hBm.uniq hm]
      rfl
    · rw [if_neg (fun y => z (kf_inj y)), h.val B m hB hBl hBm]
      have : (m ≤ d ∨ B ∈ Ws) ↔ (m ≤ d ∨ B ∈ Ws ++ [A']) := by
        rw [List.mem_append, List.mem_singleton]
        exact ⟨fun y => y.imp id .inl, fun y => y.imp id fun y => y.elim id fun y => absurd y z⟩
      by_cases y : m ≤ d ∨ B ∈ Ws
      · rw [if_pos y, if_pos (this.mp y)]
      · rw [if_neg y, if_neg (fun x => y (this.mpr x))]
  · rcases List.mem_append.mp hB with z | z
    · exact h.ws B z
    · rw [List.mem_singleton.mp z]
      exact ⟨b1, by omega, hm⟩
  · rw [List.mem_singleton.mp hy] at z
    exact nv (.inr (z ▸ hx))
/-- A' is found already -/
def Fnd (n : Nat) (F : List Int) (d : Nat) (Ws : List (List Int)) (A' : List Int) : Prop := ∃ m, Leas n F A' m ∧ (m ≤ d ∨ A' ∈ Ws)
theorem BF.found {d : Nat} {Ws : List (List Int)} {kvs : List (List Key × V)} (hF : Bks n F) (h : BF n F d Ws kvs) (hA : Bks n A) (hl : A.length = F.length) (hv : valV kvs (kf A) ≠ none) : Fnd n F d Ws A := by
  obtain ⟨m, hm⟩ := leas_ex hF hA hl.symm
  refine ⟨m, hm, Classical.byContradiction fun z => hv ?_⟩
  rw [h.val A m hA hl hm, if_neg z]
/-- the layer: all lots that are d turns away -/
def Lay (n : Nat) (F : List Int) (d : Nat) (Ls : List (List Int)) : Prop := ∀ A, Bks n A → A.length = F.length → (Leas n F A d ↔ A ∈ Ls)
theorem BF.next {d : Nat} {Ls Ws : List (List Int)} {kvs : List (List Key × V)} (hF : Bks n F) (h : BF n F d Ws kvs) (hL : Lay n F d Ls) (hd : ∀ A ∈ Ls, ∀ c ∈ up n, ∀ A', tnd n A c = some A' → Fnd n F d Ws A') :
    BF n F (d + 1) [] kvs ∧ Lay n F (d + 1) Ws := by
  have lay : ∀ A, Bks n A → A.length = F.length → Leas n F A (d + 1) → A ∈ Ws := fun A hA hl h' => by
    obtain ⟨B, c, hc, b1, b2, b3, b4⟩ := leas_prev hF hA hl.symm h'
    obtain ⟨m, hm, z⟩ := hd B ((hL B b1 (by omega)).mp b4) c hc A b3
    obtain rfl := hm.uniq h'
    exact z.resolve_left (by omega)
  refine ⟨⟨h.keys, fun A m hA hl hm => ?_, (fun A hA => nomatch hA), List.nodup_nil⟩, fun A hA hl => ⟨lay A hA hl, fun z => (h.ws A z).2.2⟩⟩
  rw [h.val A m hA hl hm]
  have : (m ≤ d ∨ A ∈ Ws) ↔ (m ≤ d + 1 ∨ A ∈ ([] : List (List Int))) := by
    constructor
    · rintro (z | z)
      · exact .inl (by omega)
      · have := hm.uniq (h.ws A z).2.2
        exact .inl (by omega)
    · rintro (z | z)
      · rcases Nat.lt_or_ge d m with y | y
        · obtain rfl : m = d + 1 := by omega
          exact .inr (lay A hA hl hm)
        · exact .inl y
      · exact absurd z List.not_mem_nil
  by_cases y : m ≤ d ∨ A ∈ Ws
  · rw [if_pos y, if_pos (this.mp y)]
  · rw [if_neg y, if_neg (fun x => y (this.mpr x))]
theorem Lay.start (hF : Bks n F) : Lay n F 0 [F] := fun A hA hl => by
  rw [leas_zero hF hA hl.symm, List.mem_singleton]
/-- at the end all are found -/
theorem BF.done {d m : Nat} {kvs : List (List Key × V)} (hF : Bks n F) (h : BF n F d [] kvs) (hL : Lay n F d []) (hA : Bks n A) (hl : A.length = F.length) (hm : Leas n F A m) : valV kvs (kf A) = some (.int (m : Nat)) := by
  rw [h.val A m hA hl hm, if_pos]
  refine .inl ?_
  rcases Nat.lt_or_ge m d with z | z
  · omega
  · obtain ⟨B, b1, b2, b3⟩ := leas_down hF hA hl.symm hm z
    exact absurd ((hL B b1 b2).mp b3) List.not_mem_nil
end
end Ap


/-! P14: other orders: called by others, turned. -/
namespace Ap
theorem wrp_shift_inj {n : Nat} {c d b : Int} (hc : c ∈ up n) (hd : d ∈ up n) (h : wrp n (c + b) = wrp n (d + b)) : c = d := by
  have hc := up_mem.mp hc
  have hd := up_mem.mp hd
  have e := wrp_eq.mp h
  have e2 : ((c + b) - b) % (n : Int) = ((d + b) - b) % n := by rw [Int.sub_emod, e, ← Int.sub_emod]
  rw [Int.add_sub_cancel, Int.add_sub_cancel] at e2
  have e3 : wrp n c = wrp n d := wrp_eq.mpr e2
  rwa [wrp_id hc.1 hc.2, wrp_id hd.1 hd.2] at e3
theorem nodup_map_on {f : Int → Int} : ∀ {l : List Int}, l.Nodup → (∀ x ∈ l, ∀ y ∈ l, f x = f y → x = y) → (l.map f).Nodup
  | [], _, _ => .nil
  | a :: l, nd, h => by
    obtain ⟨n1, n2⟩ := List.nodup_cons.mp nd
    refine List.nodup_cons.mpr ⟨fun z => ?_, nodup_map_on n2 fun x hx y hy => h x (List.mem_cons_of_mem _ hx) y (List.mem_cons_of_mem _ hy)⟩
    obtain ⟨y, hy, e⟩ := List.mem_map.mp z
    exact n1 (h a List.mem_cons_self y (List.mem_cons_of_mem _ hy) e.symm ▸ hy)
theorem stand_shift {n : Nat} {o : List Int} (n1 : 1 ≤ n) (h : Stand n o) (b : Int) : Stand n (o.map fun c => wrp n (c + b)) :=
  stand_of (nodup_map_on h.nodup fun x hx y hy e => wrp_shift_inj (h.mem.mp hx) (h.mem.mp hy) e) (fun x hx => by
    obtain ⟨c, _, rfl⟩ := List.mem_map.mp hx
    exact up_mem.mpr (wrp_mem n1 _)) (by rw [List.length_map, h.length])
theorem stand_cut {n : Nat} {o : List Int} (h : Stand n o) (k : Nat) : Stand n (o.drop k ++ o.take k) := by
  unfold Stand at *
  refine (List.perm_append_comm.trans ?_).trans h
  rw [List.take_append_drop]
theorem stand_swap {n : Nat} {l r : List Int} {c d : Int} (h : Stand n (l ++ c :: d :: r)) : Stand n (l ++ d :: c :: r) := by
  unfold Stand at *
  exact (List.Perm.append_left l (List.Perm.swap c d r)).trans h
theorem sswap {α : Type} (l r : List α) (c d : α) : ((l ++ c :: d :: r).set l.length d).set (l.length + 1) c = l ++ d :: c :: r := by
  rw [List.set_append_right _ _ (Nat.le_refl _), Nat.sub_self, List.set_cons_zero, List.set_append_right _ _ (by omega), show l.length + 1 - l.length = 1 by omega]
  rfl
theorem splt {α : Type} {R : List α} {k : Nat} {c d : α} (h1 : R[k]? = some c) (h2 : R[k + 1]? = some d) : ∃ l r, R = l ++ c :: d :: r ∧ l.length = k := by
  obtain ⟨a1, b1⟩ := List.getElem?_eq_some_iff.mp h1
  obtain ⟨a2, b2⟩ := List.getElem?_eq_some_iff.mp h2
  refine ⟨R.take k, R.drop (k + 2), ?_, by rw [List.length_take]; omega⟩
  have e1 : R.drop k = c :: R.drop (k + 1) := by rw [List.drop_eq_getElem_cons a1, b1]
  have e2 : R.drop (k + 1) = d :: R.drop (k + 2) := by rw [List.drop_eq_getElem_cons a2, b2]
  rw [← e2, ← e1, List.take_append_drop]
open L2 in
theorem cut_last (xs : List Int) : cutV (xs.map V.int) (some (-1)) none = (xs.drop (xs.length - 1)).map V.int := by
  unfold cutV
  rw [List.length_map, List.map_drop]
  have : HT.sIx xs.length 0 (some (-1)) = xs.length - 1 := by unfold HT.sIx; simp; omega
  have h2 : HT.sIx xs.length xs.length none = xs.length := rfl
  rw [this, h2, List.take_of_length_le (by rw [List.length_drop, List.length_map]; exact Nat.le_refl _)]
open L2 in
theorem cut_butlast (xs : List Int) : cutV (xs.map V.int) none (some (-1)) = (xs.take (xs.length - 1)).map V.int := by
  unfold cutV
  rw [List.length_map, List.map_take]
  have : HT.sIx xs.length xs.length (some (-1)) = xs.length - 1 := by unfold HT.sIx; simp; omega
  have h2 : HT.sIx xs.length 0 none = 0 := rfl
  rw [this, h2, List.drop_zero, Nat.sub_zero]
end Ap


open PySem L2 Ap
local macro_rules | `(tactic| walk_at "ne") => `(tactic| first
  | assumption
  | exact Ne.symm (by assumption)
  | exact ne_nn (by assumption) (by walk_at "look")
  | exact Ne.symm (ne_nn (by assumption) (by walk_at "look"))
  | exact ne_kd (by assumption) (by assumption) (by with_unfolding_all rfl))
local macro_rules | `(tactic| walk_at "nin") => `(tactic| first
  | exact nin0
  | exact nin1 (by walk_at "ne")
  | exact nin2 (by walk_at "ne") (by walk_at "ne")
  | assumption)
local macro_rules | `(tactic| walk_at "look") => `(tactic| first
  | assumption
  | exact upd_same
  | exact (upd_ne (by walk_at "ne")).trans (by walk_at "look")
  | exact Kp.look (by assumption) (by walk_at "nin") (by walk_at "look") (ntb (by with_unfolding_all rfl)))
local macro_rules | `(tactic| walk_at "s1") => `(tactic| refine St.go ?_)
local macro_rules | `(tactic| walk_at "s2") => `(tactic| first
  | ((with_reducible refine' g_ixL ?hl ?ha ?_); (case hl => walk_at "look"); (case ha => first | assumption | with_unfolding_all rfl))
  | ((with_reducible refine' g_ixT ?hl ?ha ?_); (case hl => walk_at "look"); (case ha => first | assumption | with_unfolding_all rfl))
  | ((with_reducible refine' g_setL0 ?hl ?_); (case hl => walk_at "look"))
  | ((with_reducible refine' g_setL1 ?hl ?_); (case hl => walk_at "look"))
  | ((with_reducible refine' g_setL ?hl ?ha ?_); (case hl => walk_at "look"); (case ha => first | assumption | with_unfolding_all rfl))
  | ((with_reducible refine' g_kBMl ?hl ?_); (case hl => walk_at "look"))
  | ((with_reducible refine' g_kBM0l ?hl ?_); (case hl => walk_at "look"))
  | ((with_reducible refine' g_len ?hl ?_); (case hl => walk_at "look"))
  | ((with_reducible refine' g_lenT ?hl ?_); (case hl => walk_at "look"))
  | ((with_reducible refine' g_kIL ?hl ?_); (case hl => walk_at "look"))
  | ((with_reducible refine' g_gTup ?hl ?hn ?_); (case hl => walk_at "look"); (case hn => with_unfolding_all rfl))
  | ((with_reducible refine' g_gLst ?hl ?hn ?_); (case hl => walk_at "look"); (case hn => with_unfolding_all rfl))
  | ((with_reducible refine' g_kIEn ?hl ?_); (case hl => walk_at "look"))
  | ((with_reducible refine' g_aug ?he ?_); (case he => with_unfolding_all rfl))
  | ((with_reducible refine' g_kRv ?hl ?_); (case hl => walk_at "look"); (intro _ _))
  | ((with_reducible refine' g_ipM ?hc ?_); (case hc => walk_at "cond"))
  | ((with_reducible refine' g_kAd ?hl ?_); (case hl => walk_at "look"))
  | ((with_reducible refine' g_sd ?hl ?_); (case hl => walk_at "look"))
  | ((with_reducible refine' g_kVl ?hl ?_); (case hl => walk_at "look"); (intro _ _))
  | ((with_reducible refine' g_slL ?hl ?_); (case hl => walk_at "look"); (intro _ _))
  | ((with_reducible refine' g_inS ?hl ?hf ?hg ?_); (case hl => walk_at "look"); (case hf => first | rfl | assumption); (case hg => first | rfl | assumption))
  | ((with_reducible refine' g_niS ?hl ?hf ?hg ?_); (case hl => walk_at "look"); (case hf => first | rfl | assumption); (case hg => first | rfl | assumption))
  | ((with_reducible refine' g_neE ?hl ?hm ?_); (case hl => walk_at "look"); (case hm => walk_at "look"))
  | ((with_reducible refine' g_eqE ?hl ?hm ?_); (case hl => walk_at "look"); (case hm => walk_at "look"))
  | ((with_reducible refine g_rI ?hc ?_); (case hc => walk_at "cond"))
  | ((with_reducible refine g_kL ?hl ?_); (case hl => with_unfolding_all rfl); intro _ _)
  | ((with_reducible refine g_kTu ?hl ?_); (case hl => with_unfolding_all rfl); intro _ _)
  | ((with_reducible refine' g_list ?hl ?_); (case hl => walk_at "look"); intro _ _)
  | ((with_reducible refine g_kRg ?hl ?_); (case hl => omega); intro _ _)
  | ((with_reducible refine g_kIR1 ?hl ?_); (case hl => omega))
  | ((with_reducible refine g_kIR2 ?hl ?_); (case hl => omega)))
local macro_rules | `(tactic| walk_at "cond") => `(tactic| first
  | decide
  | (show (0 : Int) < _; omega)
  | (refine Or.inl ?_; omega)
  | (refine Or.inr ?_; omega)
  | (show (0 : Int) < _ ∧ _ < (1073741824 : Int); omega)
  | exact ⟨by decide +kernel, by decide +kernel⟩
  | assumption)
local macro_rules | `(tactic| walk_at "go") => `(tactic| repeat (first | walk_at "s1" | walk_at "s2"))

namespace Ap
open PySem L2
/-! the law's drawer, told exactly -/
abbrev Dst := Int × Int × Bool
def nxV (d : Dst) : Int :=
  if d.2.2 then d.1 % 1000000
  else
    let x := ((d.1 % 1000003 + (d.2.1 + 1) * (d.2.1 + 1) * 7919 + (d.2.1 + 1)) * 48271) % 2147483629
    let y := (x * x) % 2147483587
    (y * (y + 2)) % 2147483579 / 7
def nxS (d : Dst) : Dst := (if d.2.2 then d.1 / 1000000 else d.1, d.2.1 + 1, d.2.2)
theorem nxV_nn (d : Dst) : 0 ≤ nxV d := by
  unfold nxV
  split
  · omega
  · dsimp only; omega
theorem nxV_lt (d : Dst) : nxV d < 2 ^ 31 := by
  unfold nxV
  split
  · omega
  · dsimp only; omega
def DrAt (a : Addr) (d : Dst) (H : Hp) : Prop := H a = some (.lst [.int d.1, .int d.2.1, .bl d.2.2])
def Dok (d : Dst) (m : Nat) : Prop := 0 ≤ d.1 ∧ 0 ≤ d.2.1 ∧ d.2.1 ≤ m
theorem Dok.next {d : Dst} {m : Nat} (h : Dok d m) : Dok (nxS d) (m + 1) := by
  obtain ⟨h1, h2, h3⟩ := h
  unfold nxS
  refine ⟨?_, ?_, ?_⟩
  · dsimp only; split <;> omega
  · dsimp only; omega
  · dsimp only; omega
theorem Dok.mono {d : Dst} {m m' : Nat} (h : Dok d m) (l : m ≤ m') : Dok d m' := ⟨h.1, h.2.1, by have := h.2.2; omega⟩
/-- a drawer stands at a: some number, some count up to m, some flag -/
def Draws (a : Addr) (m : Nat) (H : Hp) : Prop := ∃ d, DrAt a d H ∧ Dok d m
theorem Draws.mono {a : Addr} {m m' : Nat} {H : Hp} (h : Draws a m H) (l : m ≤ m') : Draws a m' H := by
  obtain ⟨d, e, h1⟩ := h
  exact ⟨d, e, h1.mono l⟩
theorem DrAt.ne {a : Addr} {d : Dst} {H : Hp} (h : DrAt a d H) : H a ≠ none := by
  unfold DrAt at h
  rw [h]; exact fun z => nomatch z
theorem Draws.ne {a : Addr} {m : Nat} {H : Hp} (h : Draws a m H) : H a ≠ none := by
  obtain ⟨d, e, _⟩ := h
  exact e.ne
theorem Draws.put {a p : Addr} {m : Nat} {H : Hp} {o : HO} (h : Draws a m H) (n : a ≠ p) : Draws a m (upd H p o) := by
  obtain ⟨d, e, h1⟩ := h
  exact ⟨d, (upd_ne n).trans e, h1⟩
theorem Draws.new {a p : Addr} {m : Nat} {H : Hp} {o : HO} (h : Draws a m H) (n : H p = none) : Draws a m (upd H p o) := h.put fun z => h.ne (z ▸ n)
theorem Draws.kp {a : Addr} {m : Nat} {H H' : Hp} (h : Draws a m H) (k : Kp [] H H') : Draws a m H' := by
  obtain ⟨d, e, h1⟩ := h
  exact ⟨d, k.lst nin0 e, h1⟩
/-- exact -/
def spNextX : Sp := fun vs H Q _ => ∃ (a : Addr) (m : Nat) (d : Dst), vs = [.ref a] ∧ DrAt a d H ∧ Dok d m ∧ m < 2 ^ 40 ∧ ∀ (H' : Hp), Kp [a] H H' → DrAt a (nxS d) H' → Q (.int (nxV d)) H'
def spNext : Sp := fun vs H Q _ => ∃ (a : Addr) (m : Nat), vs = [.ref a] ∧ Draws a m H ∧ m < 2 ^ 40 ∧ ∀ (r : Int) (H' : Hp), 0 ≤ r → r < 2 ^ 31 → Kp [a] H H' → Draws a (m + 1) H' → Q (.int r) H'
section
variable {P : Program} {w : World} {K : PySem.W.Frag} {mg : Str → Option Value} {base : Heap}
theorem ok_nextX (T : Txt K mg base) : FnG P w K mg base CX0 1 T.a_Lnext T.fd_Lnext ["_law_draws_here"] spNextX := by
  refine fnG_of0 T.F_Lnext sc_Lnext (fun vs H Q E h => ?_) (fun cdv A outer s H vs Q E hcd hr gd h => ?_)
  · obtain ⟨a, m, d, rfl, _⟩ := h
    rfl
  · obtain ⟨a, m, ⟨c, k, b⟩, rfl, ha, hd, hm2, q⟩ := h
    obtain ⟨hc, hk, hm⟩ := hd
    have ha : H a = some (.lst [.int c, .int k, .bl b]) := ha
    have hc : 0 ≤ c := hc
    have hk : 0 ≤ k := hk
    have hm : k ≤ m := hm
    refine ⟨_, (pss_cons (ps_asg (pe_op op_add (pe_ix ix_list (pv 0) pe_int (fun _ _ => rfl)) pe_int) (pg_sub (pv 0) pe_int set_list))
    (pss_cons (ps_set (i := 1) sc_Lnext.nd rfl (Or.inl rfl) (pe_ix ix_list (pv 0) pe_int (fun _ _ => rfl)))
    (pss_cons (ps_if (pt_val (pe_ix ix_list (pv 0) pe_int (fun _ _ => rfl)))
      (pss_cons (ps_set (i := 2) sc_Lnext.nd rfl (Or.inl rfl) (pe_op op_mod (pe_callTy cr_int (by rfl) T.n_int (by decide +kernel) (pa_cons (pe_ix ix_list (pv 0) pe_int (fun _ _ => rfl)) pa_nil)) (pe_op op_powG pe_int pe_int)))
      (pss_cons (ps_asg (pe_op op_fdiv (pe_ix ix_list (pv 0) pe_int (fun _ _ => rfl)) (pe_op op_powG pe_int pe_int)) (pg_sub (pv 0) pe_int set_list))
      (pss_one (ps_ret (pv 2)))))
      pss_nil)
    (pss_cons (ps_set (i := 2) sc_Lnext.nd rfl (Or.inl rfl) (pe_op op_mod (pe_callTy cr_int (by rfl) T.n_int (by decide +kernel) (pa_cons (pe_op op_mul (pe_op op_add (pe_op op_add (pe_op op_mod (pe_callTy cr_int (by rfl) T.n_int (by decide +kernel) (pa_cons (pe_ix ix_list (pv 0) pe_int (fun _ _ => rfl)) pa_nil)) pe_int) (pe_op op_mul (pe_op op_mul (pv 1) (pv 1)) pe_int)) (pv 1)) pe_int) pa_nil)) pe_int))
    (pss_cons (ps_set (i := 2) sc_Lnext.nd rfl (Or.inl rfl) (pe_op op_mod (pe_callTy cr_int (by rfl) T.n_int (by decide +kernel) (pa_cons (pe_op op_mul (pv 2) (pv 2)) pa_nil)) pe_int))
    (pss_one (ps_ret (pe_op op_fdiv (pe_op op_mod (pe_callTy cr_int (by rfl) T.n_int (by decide +kernel) (pa_cons (pe_op op_mul (pv 2) (pe_op op_add (pv 2) pe_int)) pa_nil)) pe_int) pe_int)))))))), ?_⟩
    rw [show start ["_law_draws_here", "_law_k", "_law_number"] [V.ref a] = [some (V.ref a), none, none] from rfl]
    walk_at "go"
    have e6 : (10 : Int) ^ Int.toNat 6 = 1000000 := rfl
    refine g_kB (fun e => ?_) (fun e => ?_)
    · subst e
      walk_at "go"
      rw [e6]
      exact q _ ((((Kp.refl _ _).mut (List.mem_singleton.mpr rfl) ha (ntb rfl))).mut (List.mem_singleton.mpr rfl) ha (ntb rfl)) upd_same
    · subst e
      walk_at "go"
      exact q _ (((Kp.refl _ _).mut (List.mem_singleton.mpr rfl) ha (ntb rfl))) upd_same
theorem ok_Lnext (T : Txt K mg base) : FnG P w K mg base CX0 1 T.a_Lnext T.fd_Lnext ["_law_draws_here"] spNext :=
  (ok_nextX T).imp fun vs H Q E h => by
    obtain ⟨a, m, rfl, ⟨d, hd, hk⟩, hm, q⟩ := h
    exact ⟨a, m, d, rfl, hd, hk, hm, fun H' k e => q _ _ (nxV_nn d) (nxV_lt d) k ⟨_, e, hk.next⟩⟩
end
end Ap


namespace Ap
open PySem L2 PySem.Spec PyProof.Rows
def spLaw (K : PySem.W.Frag) (tb : List Addr) : Sp := fun vs H Q _ => ∃ (a : Addr) (ns : List Int), vs = [.ref a] ∧ SqL K H a (ns.map V.int) ∧ ns.length ≤ 63 ∧ Tabs tb H ∧ ∀ H', Q (.bl true) H'
/-- the same, the tables empty -/
def spLaw0 (K : PySem.W.Frag) (tb : List Addr) : Sp := fun vs H Q _ => ∃ (a : Addr) (ns : List Int), vs = [.ref a] ∧ SqL K H a (ns.map V.int) ∧ ns.length ≤ 63 ∧ (∀ b ∈ tb, H b = some (.tbl #[])) ∧ ∀ H', Q (.bl true) H'
theorem trip0 : TriplesOk (#[] : Array Value).toList := by
  first | trivial | exact .nil | constructor | decide
theorem Draws.kpS {S : List Addr} {a : Addr} {m : Nat} {H H' : Hp} (h : Draws a m H) (k : Kp S H H') (n : a ∉ S) : Draws a m H' := by
  obtain ⟨d, e, r⟩ := h
  exact ⟨d, k.lst n e, r⟩
theorem Kp.off {d : Addr} {H G G1 : Hp} (a : Kp [] H G) (b : Kp [d] G G1) (hd : H d = none) : Kp [] H G1 :=
  ⟨fun c o _ e t => b.keep c o (nin1 fun z => by rw [z, hd] at e; cases e) (a.keep c o nin0 e t) t, fun c ps e t => by
    obtain ⟨ps', e', t'⟩ := a.tbl c ps e t
    exact b.tbl c ps' e' t', fun c o e => by
    obtain ⟨o', e'⟩ := a.there c o e
    exact b.there c o' e', fun c q l t => b.lam c q l (a.lam c q l t)⟩
/-- the drawers dl in the list at D, all of them newer than H -/
structure DH (H : Hp) (dl : List Addr) (D : Addr) (M : Nat) (G : Hp) : Prop where
  kp : Kp [] H G
  l : G D = some (.lst (dl.map V.ref))
  ds : ∀ d ∈ dl, H d = none ∧ d ≠ D ∧ Draws d M G
theorem DH.step {H : Hp} {dl : List Addr} {D d : Addr} {M M' : Nat} {G G1 : Hp} (h : DH H dl D M G) (k : Kp [d] G G1) (dr : Draws d M' G1) (le : M ≤ M') (hd : d ∈ dl) : DH H dl D M' G1 := by
  obtain ⟨d1, d2, _⟩ := h.ds d hd
  refine ⟨h.kp.off k d1, k.lst (nin1 (Ne.symm d2)) h.l, fun e he => ?_⟩
  obtain ⟨a1, a2, a3⟩ := h.ds e he
  refine ⟨a1, a2, ?_⟩
  by_cases c : e = d
  · rw [c]; exact dr
  · exact (a3.mono le).kpS k (nin1 c)
theorem DH.keep {H : Hp} {dl : List Addr} {D : Addr} {M M' : Nat} {G G1 : Hp} (h : DH H dl D M G) (k : Kp [] G G1) (le : M ≤ M') : DH H dl D M' G1 :=
  ⟨h.kp.trans k, k.lst nin0 h.l, fun e he => ⟨(h.ds e he).1, (h.ds e he).2.1, ((h.ds e he).2.2.mono le).kp k⟩⟩
theorem cutI_from (xs : List Int) (k : Nat) {i : Int} (e : i = k) : cutV (xs.map V.int) (some i) none = (xs.drop k).map V.int := by rw [cut_from e, List.map_drop]
theorem cutI_to (xs : List Int) (k : Nat) {i : Int} (e : i = k) : cutV (xs.map V.int) none (some i) = (xs.take k).map V.int := by rw [cut_any e, List.map_take]
section
variable {K : PySem.W.Frag} {H : Hp} {Q : VK} {lo : Option Int}
theorem g_catI {l b : Addr} {xs zs : List Int} (e : H l = some (.lst (xs.map V.int))) (e2 : H b = some (.lst (zs.map V.int))) (h : xs.length + zs.length ≤ 1000000)
    (k : ∀ p G, H p = none → Kp [] H G → G p = some (.lst ((xs ++ zs).map V.int)) → Q (.ref p) G) : rCat (.ref l) (.ref b) H Q :=
  g_cat e e2 (by rw [List.length_map, List.length_map]; exact triv_sz h) fun p hp => k p _ hp (Kp.new hp) (by rw [List.map_append]; exact upd_same)
theorem g_evI {a : Addr} {xs : List Int} (n : Nat) (hk : loN lo n) (e : H a = some (.lst (xs.map V.int))) (hl : n ≤ xs.length) (k : ∀ p G, H p = none → Kp [] H G → G p = some (.lst ((evens (xs.drop n)).map V.int)) → Q (.ref p) G) : kS22 K (.ref a) Q lo H :=
  g_kS22 n hk e (by rw [List.length_map]; exact hl) fun p hp => k p _ hp (Kp.new hp) (by rw [← List.map_drop, evens_map]; exact upd_same)
end
theorem pairs_more {P : Addr → Prop} {G : Hp} {D e : Addr} {vs : List V} {ts : List Tie} {s : Tie} (hv : G D = some (.lst vs)) (hA : DaAll (fun b => P b ∧ b ≠ D) G vs (ts.map tieD)) (he : G e = none) (hp : P e) :
    DaAll (fun b => P b ∧ b ≠ D) (upd (upd G e (.lst [.int s.1, .int s.2])) D (.lst (vs ++ [.ref e]))) (vs ++ [.ref e]) ((ts ++ [s]).map tieD) := by
  have eD : e ≠ D := fun z => by rw [z, hv] at he; cases he
  rw [List.map_append]
  exact (((hA.fresh he).other fun b hb => hb.1.2).imp fun b hb => hb.1).append (.cons (.lst ⟨hp, eD⟩ (by rw [upd_ne eD]; exact upd_same) (.cons (.int _) (.cons (.int _) .nil))) .nil)
end Ap


namespace Ap
open PySem L2 PySem.Spec PyProof.Rows
/-- a value and whether it is a whole number -/
inductive Wh (K : PySem.W.Frag) (H : Hp) : V → Option Int → Prop
  | int (i : Int) : Wh K H (.int i) (some i)
  | bl (b : Bool) : Wh K H (.bl b) none
  | oth {v : V} {T : String} : TyX K H v (.type T) → kitB T "int" = some false → Wh K H v none
/-- 1 <= it <= n -/
def inI (o : Option Int) (n : Int) : Bool := match o with
  | some i => decide (1 ≤ i) && decide (i ≤ n)
  | none => false
def spWhole (K : PySem.W.Frag) : Sp := fun vs H Q _ => ∃ v o, vs = [v] ∧ Wh K H v o ∧ Q (.bl o.isSome) H
def spWithin (K : PySem.W.Frag) : Sp := fun vs H Q _ => ∃ v o n, vs = [v, .int n] ∧ Wh K H v o ∧ Q (.bl (inI o n)) H
section
variable {P : Program} {w : World} {K : PySem.W.Frag} {mg : Str → Option Value} {base : Heap}
theorem ok_is_whole (T : Txt K mg base) : FnOk P w K mg base CX0 1 T.a_is_whole T.fd_is_whole ["thing"] (spWhole K) := by
  refine fnK_of0 T.F_is_whole sc_is_whole (fun vs H Q E h => ?_) (fun cdv A outer s H vs Q E hcd hr h => ?_)
  · obtain ⟨v, o, rfl, _⟩ := h
    rfl
  · obtain ⟨v, o, rfl, ho, q⟩ := h
    refine ⟨_, (pss_one (ps_ret (pe_and (pe_callB call_isi (by rfl) T.n_isinstance (by decide +kernel) (pa_cons (pv 0) (pa_cons (pe_bltn (v := .ty "int") (u := .type "int") rfl T.n_int (by decide +kernel) rfl) pa_nil))) (pe_one (pe_not (pe_callB call_isi (by rfl) T.n_isinstance (by decide +kernel) (pa_cons (pv 0) (pa_cons (pe_bltn (v := .ty "bool") (u := .type "bool") rfl T.n_bool (by decide +kernel) rfl) pa_nil)))))))), ?_⟩
    rw [show start ["thing"] [v] = [some (v)] from rfl]
    walk_at "go"
    cases ho with
    | int i =>
      refine g_isi (T' := "int") (.base (.int i)) (by decide +kernel : kitB "int" "int" = some true) ?_
      walk_at "go"
      refine g_isi (T' := "int") (.base (.int i)) (by decide +kernel : kitB "int" "bool" = some false) ?_
      walk_at "go"
      exact q
    | bl b =>
      refine g_isi (T' := "bool") (.base (.bl b)) (by decide +kernel : kitB "bool" "int" = some true) ?_
      walk_at "go"
      refine g_isi (T' := "bool") (.base (.bl b)) (by decide +kernel : kitB "bool" "bool" = some true) ?_
      walk_at "go"
      exact q
    | oth t k =>
      refine g_isi t k ?_
      walk_at "go"
      exact q
theorem ok_is_within (T : Txt K mg base) : FnOk P w K mg base CX0 2 T.a_is_within T.fd_is_within ["thing", "most"] (spWithin K) := by
  refine fnK_of0 T.F_is_within sc_is_within (fun vs H Q E h => ?_) (fun cdv A outer s H vs Q E hcd hr h => ?_)
  · obtain ⟨v, o, n, rfl, _⟩ := h
    rfl
  · obtain ⟨v, o, n, rfl, ho, q⟩ := h
    refine ⟨_, (pss_one (ps_ret (pe_and (pe_call (ok_is_whole T) (hr.mono (by decide)) rfl T.m_is_whole T.F_is_whole.kp T.b_is_whole .nil pass0 (pa_cons (pv 0) pa_nil)) (pe_one (pe_chain op_le op_le pe_int (pv 0) (pv 1)))))), ?_⟩
    rw [show start ["thing", "most"] [v, .int n] = [some (v), some (.int n)] from rfl]
    walk_at "go"
    refine ⟨v, o, rfl, ho, ?_⟩
    cases ho with
    | int i =>
      walk_at "go"
      refine g_kT ?_
      walk_at "go"
      refine g_kD (fun e => ?_) (fun e => ?_)
      · walk_at "go"
        have : inI (some i) n = decide (i ≤ n) := by simp [inI, e]
        rw [this] at q
        exact q
      · walk_at "go"
        have : inI (some i) n = false := by simp [inI, e]
        rw [this] at q
        exact q
    | bl b =>
      walk_at "go"
      refine g_kF ?_
      walk_at "go"
      exact q
    | oth t k =>
      walk_at "go"
      refine g_kF ?_
      walk_at "go"
      exact q
end
end Ap


namespace Ap
open PySem L2 PySem.Spec PyProof.Rows
def spNxt : Sp := fun vs H Q _ => ∃ n c : Int, vs = [.int c, .int n] ∧ 0 < n ∧ Q (.int (nx n c)) H
/-- right ones: different numbers from 1 to n -/
def spWrong : Sp := fun vs H Q _ => ∃ (p : Addr) (ns : List Int) (n : Int), vs = [.ref p, .int n] ∧ H p = some (.lst (ns.map V.int)) ∧ ns.length ≤ 1000 ∧ ns.Nodup ∧ (∀ x ∈ ns, 1 ≤ x ∧ x ≤ n) ∧ ∀ H', Kp [] H H' → Q .non H'
def spOrderOf : Sp := fun vs H Q _ => ∃ (p : Addr) (ns : List Int) (n : Nat), vs = [.ref p, .int n] ∧ H p = some (.lst (ns.map V.int)) ∧ n ≤ 40 ∧ Stand n ns ∧ ∀ H', Kp [] H H' → Q .non H'
def spStanding : Sp := fun vs H Q _ => ∃ (p : Addr) (ns : List Int) (n : Nat), vs = [.int n, .ref p] ∧ H p = some (.lst (ns.map V.int)) ∧ n ≤ 40 ∧ Stand n ns ∧ ∀ H', Kp [] H H' → Q .non H'
def spCalls : Sp := fun vs H Q _ => ∃ (p : Addr) (ns : List Int) (n : Nat), vs = [.int n, .ref p] ∧ H p = some (.lst (ns.map V.int)) ∧ (∀ c ∈ ns, c ∈ up n) ∧ ∀ H', Kp [] H H' → Q .non H'
section
variable {P : Program} {w : World} {K : PySem.W.Frag} {mg : Str → Option Value} {base : Heap}
theorem ok_next_round (T : Txt K mg base) : FnOk P w K mg base CX0 1 T.a_next_round T.fd_next_round ["number", "count"] spNxt := by
  refine fnK_of0 T.F_next_round sc_next_round (fun vs H Q E h => ?_) (fun cdv A outer s H vs Q E hcd hr h => ?_)
  · obtain ⟨n, c, rfl, _⟩ := h
    rfl
  · obtain ⟨n, c, rfl, h0, q⟩ := h
    refine ⟨_, (pss_one (ps_ret (pe_op op_add (pe_op op_mod (pv 0) (pv 1)) pe_int))), ?_⟩
    rw [show start ["number", "count"] [.int c, .int n] = [some (.int c), some (.int n)] from rfl]
    walk_at "go"
    exact q
theorem ok_wrong_place (T : Txt K mg base) : FnOk P w K mg base CX0 3 T.a_wrong_place T.fd_wrong_place ["things", "count"] spWrong := by
  refine fnK_of0 T.F_wrong_place sc_wrong_place (fun vs H Q E h => ?_) (fun cdv A outer s H vs Q E hcd hr h => ?_)
  · obtain ⟨p, ns, n, rfl, _⟩ := h
    rfl
  · obtain ⟨p, ns, n, rfl, hp, few, nd, hin, q⟩ := h
    refine ⟨_, (pss_cons (ps_set (i := 2) sc_wrong_place.nd rfl (Or.inl rfl) (pe_callTy0 cr_set0 (by rfl) T.n_set (by decide +kernel)))
    (pss_cons (ps_for PassesOwn.never rfl (pi_enum (by rfl) T.n_enumerate (pa_cons (pv 0) pa_nil)) (pg_tup rfl (pgs_cons (pg_name (i := 3) sc_wrong_place.nd rfl (Or.inl rfl)) (pgs_cons (pg_name (i := 4) sc_wrong_place.nd rfl (Or.inl rfl)) pgs_nil)))
      (pss_cons (ps_if (PW.pt (pw_or (pt_not (pt_val (pe_call (ok_is_within T) (hr.mono (by decide)) rfl T.m_is_within T.F_is_within.kp T.b_is_within .nil pass0 (pa_cons (pv 4) (pa_cons (pv 1) pa_nil))))) (pw_or1 (pt_cmpR or_sin (pv 4) (pv 2) (by rfl)))))
        (pss_one (ps_ret (pv 3)))
        pss_nil)
      (pss_one (ps_expr (pe_sadd (pv 2) (pa_cons (pv 4) pa_nil))))))
    (pss_one (ps_ret pe_non)))), ?_⟩
    rw [show start ["things", "count", "seen", "index", "thing"] [.ref p, .int n] = [some (.ref p), some (.int n), none, none, none] from rfl]
    walk_at "go"
    refine ⟨rfl, fun S hS => ?_⟩
    walk_at "go"
    refine g_it (walk_enum (xs := ns.map V.int)) (fun i σ' H' => ∃ x3 x4 k, ∃ f : Int → Bool, σ' = [some (.ref p), some (.int n), some (.ref S), x3, x4] ∧ Kp [] H H' ∧ H' S = some (SetO w S f k) ∧ k ≤ i ∧ ∀ j, f j = decide (j ∈ ns.take i))
      ⟨_, _, 0, _, rfl, (Kp.refl _ _).put hS, upd_same, Nat.le_refl _, fun j => by simp⟩ (fun i σ' H' _ h => ?_) ?_ ?_
    · obtain ⟨_, _, _, _, _, hK, _⟩ := h
      exact SqL.of (hK.lst nin0 hp)
    · rintro i x σ' H' H'' hi ⟨x3, x4, k, f, rfl, hK, hSet, hk, hf⟩ ⟨Tp, xi, y, rfl, hTp, rfl, hx1, hx2⟩
      cases hx1
      have hx2 : (ns.map V.int)[i]? = some y := hx2
      rw [List.getElem?_map] at hx2
      obtain ⟨z, hz, rfl⟩ := Option.map_eq_some_iff.mp hx2
      have b := hin z (List.mem_of_getElem? hz)
      have fz : f z = false := by rw [hf, decide_eq_false (not_mem_take nd hz)]
      have ST : S ≠ Tp := ne_of_none hSet hTp
      rw [List.length_map] at hi
      walk_at "go"
      refine ⟨.int z, some z, n, rfl, .int z, ?_⟩
      rw [show inI (some z) n = true by simp [inI, b.1, b.2]]
      walk_at "go"
      refine ⟨z, S, f, k, rfl, rfl, by walk_at "look", ?_⟩
      rw [fz]
      walk_at "go"
      refine g_kSad (S := f) (n := k) (by walk_at "look") ?_
      walk_at "go"
      refine g_sadd (S := f) (n := k) (by walk_at "look") (by omega) ?_
      walk_at "go"
      refine ⟨_, _, _, _, rfl, (hK.put (hK.free hTp)).put hS (NC.setO (by walk_at "look")), upd_same, ?_, fun j => ?_⟩
      · split <;> omega
      · rw [hf, take_succ' hz]
        simp [Bool.or_comm]
    · rintro σ' H' ⟨x3, x4, k, f, rfl, hK, hSet, hk, hf⟩
      walk_at "go"
      exact q _ hK
theorem ok_check_order_of (T : Txt K mg base) : FnOk P w K mg base CX0 4 T.a_check_order_of T.fd_check_order_of ["order", "count"] spOrderOf := by
  refine fnK_of0 T.F_check_order_of sc_check_order_of (fun vs H Q E h => ?_) (fun cdv A outer s H vs Q E hcd hr h => ?_)
  · obtain ⟨p, ns, n, rfl, _⟩ := h
    rfl
  · obtain ⟨p, ns, n, rfl, hp, n2, hS, q⟩ := h
    have ln := hS.length
    refine ⟨_, (pss_cons (ps_if (PW.pt (pw_or (pt_not (pt_val (pe_callB call_isi (by rfl) T.n_isinstance (by decide +kernel) (pa_cons (pv 0) (pa_cons (pe_bltn (v := .ty "list") (u := .type "list") rfl T.n_list (by decide +kernel) rfl) pa_nil))))) (pw_or1 (pt_cmpR op_ne (pe_callB cr_len (by rfl) T.n_len (by decide +kernel) (pa_cons (pv 0) pa_nil)) (pv 1) (nomark _)))))
      (pss_one ps_never)
      pss_nil)
    (pss_cons (ps_set (i := 2) sc_check_order_of.nd rfl (Or.inl rfl) (pe_call (ok_wrong_place T) (hr.mono (by decide)) rfl T.m_wrong_place T.F_wrong_place.kp T.b_wrong_place .nil pass0 (pa_cons (pv 0) (pa_cons (pv 1) pa_nil))))
    (pss_one (ps_if (pt_cmpR op_notN (pv 2) pe_non (nomark _))
      (pss_one ps_never)
      pss_nil)))), ?_⟩
    rw [show start ["order", "count", "index"] [.ref p, .int n] = [some (.ref p), some (.int n), none] from rfl]
    walk_at "go"
    refine g_isi (T' := "list") (.base (.lst hp)) (by decide +kernel : kitB "list" "list" = some true) ?_
    walk_at "go"
    rw [List.length_map, ln]
    refine g_kNX rfl ?_
    walk_at "go"
    refine ⟨p, ns, n, rfl, hp, by omega, hS.nodup, fun x hx => up_mem.mp (hS.mem.mp hx), fun H' hK => ?_⟩
    walk_at "go"
    refine ⟨rfl, ?_⟩
    walk_at "go"
    refine g_kNX rfl ?_
    walk_at "go"
    exact q H' hK
theorem ok_check_standing (T : Txt K mg base) : FnOk P w K mg base CX0 4 T.a_check_standing T.fd_check_standing ["seats", "standing"] spStanding := by
  refine fnK_of0 T.F_check_standing sc_check_standing (fun vs H Q E h => ?_) (fun cdv A outer s H vs Q E hcd hr h => ?_)
  · obtain ⟨p, ns, n, rfl, _⟩ := h
    rfl
  · obtain ⟨p, ns, n, rfl, hp, n2, hS, q⟩ := h
    have ln := hS.length
    refine ⟨_, (pss_cons (ps_if (PW.pt (pw_or (pt_not (pt_val (pe_callB call_isi (by rfl) T.n_isinstance (by decide +kernel) (pa_cons (pv 1) (pa_cons (pe_bltn (v := .ty "list") (u := .type "list") rfl T.n_list (by decide +kernel) rfl) pa_nil))))) (pw_or1 (pt_cmpR op_ne (pe_callB cr_len (by rfl) T.n_len (by decide +kernel) (pa_cons (pv 1) pa_nil)) (pv 0) (nomark _)))))
      (pss_one ps_never)
      pss_nil)
    (pss_cons (ps_set (i := 2) sc_check_standing.nd rfl (Or.inl rfl) (pe_call (ok_wrong_place T) (hr.mono (by decide)) rfl T.m_wrong_place T.F_wrong_place.kp T.b_wrong_place .nil pass0 (pa_cons (pv 1) (pa_cons (pv 0) pa_nil))))
    (pss_one (ps_if (pt_cmpR op_notN (pv 2) pe_non (nomark _))
      (pss_one ps_never)
      pss_nil)))), ?_⟩
    rw [show start ["seats", "standing", "index"] [.int n, .ref p] = [some (.int n), some (.ref p), none] from rfl]
    walk_at "go"
    refine g_isi (T' := "list") (.base (.lst hp)) (by decide +kernel : kitB "list" "list" = some true) ?_
    walk_at "go"
    rw [List.length_map, ln]
    refine g_kNX rfl ?_
    walk_at "go"
    refine ⟨p, ns, n, rfl, hp, by omega, hS.nodup, fun x hx => up_mem.mp (hS.mem.mp hx), fun H' hK => ?_⟩
    walk_at "go"
    refine ⟨rfl, ?_⟩
    walk_at "go"
    refine g_kNX rfl ?_
    walk_at "go"
    exact q H' hK
theorem ok_check_calls (T : Txt K mg base) : FnOk P w K mg base CX0 3 T.a_check_calls T.fd_check_calls ["seats", "calls"] spCalls := by
  refine fnK_of0 T.F_check_calls sc_check_calls (fun vs H Q E h => ?_) (fun cdv A outer s H vs Q E hcd hr h => ?_)
  · obtain ⟨p, ns, n, rfl, _⟩ := h
    rfl
  · obtain ⟨p, ns, n, rfl, hp, hin, q⟩ := h
    refine ⟨_, (pss_cons (ps_if (pt_not (pt_val (pe_callB call_isi (by rfl) T.n_isinstance (by decide +kernel) (pa_cons (pv 1) (pa_cons (pe_bltn (v := .ty "list") (u := .type "list") rfl T.n_list (by decide +kernel) rfl) pa_nil)))))
      (pss_one ps_never)
      pss_nil)
    (pss_one (ps_for PassesOwn.never rfl (pi_enum (by rfl) T.n_enumerate (pa_cons (pv 1) pa_nil)) (pg_tup rfl (pgs_cons (pg_name (i := 2) sc_check_calls.nd rfl (Or.inl rfl)) (pgs_cons (pg_name (i := 3) sc_check_calls.nd rfl (Or.inl rfl)) pgs_nil)))
      (pss_one (ps_if (pt_not (pt_val (pe_call (ok_is_within T) (hr.mono (by decide)) rfl T.m_is_within T.F_is_within.kp T.b_is_within .nil pass0 (pa_cons (pv 3) (pa_cons (pv 0) pa_nil)))))
        (pss_one ps_never)
        pss_nil))))), ?_⟩
    rw [show start ["seats", "calls", "index", "call"] [.int n, .ref p] = [some (.int n), some (.ref p), none, none] from rfl]
    walk_at "go"
    refine g_isi (T' := "list") (.base (.lst hp)) (by decide +kernel : kitB "list" "list" = some true) ?_
    walk_at "go"
    refine g_it (walk_enum (xs := ns.map V.int)) (fun i σ' H' => ∃ x2 x3, σ' = [some (.int n), some (.ref p), x2, x3] ∧ Kp [] H H')
      ⟨_, _, rfl, Kp.refl _ _⟩ (fun i σ' H' _ h => ?_) ?_ ?_
    · obtain ⟨_, _, _, hK⟩ := h
      exact SqL.of (hK.lst nin0 hp)
    · rintro i x σ' H' H'' hi ⟨x2, x3, rfl, hK⟩ ⟨Tp, xi, y, rfl, hTp, rfl, hx1, hx2⟩
      cases hx1
      have hx2 : (ns.map V.int)[i]? = some y := hx2
      rw [List.getElem?_map] at hx2
      obtain ⟨z, hz, rfl⟩ := Option.map_eq_some_iff.mp hx2
      have b := up_mem.mp (hin z (List.mem_of_getElem? hz))
      walk_at "go"
      refine ⟨.int z, some z, n, rfl, .int z, ?_⟩
      rw [show inI (some z) n = true by simp [inI, b.1, b.2]]
      walk_at "go"
      exact ⟨_, _, rfl, hK.put (hK.free hTp)⟩
    · rintro σ' H' ⟨x2, x3, rfl, hK⟩
      walk_at "go"
      exact q _ hK
end
end Ap


namespace Ap
open PySem L2 PySem.Spec PyProof.Rows
/-- a value that is no reference and whether it is a whole number -/
inductive Fw : V → Option Int → Prop
  | int (i : Int) : Fw (.int i) (some i)
  | bl (b : Bool) : Fw (.bl b) none
  | non : Fw .non none
  | str (x : Str) : Fw (.str x) none
  | flt (x : UInt64) : Fw (.flt x) none
theorem Fw.wh {K : PySem.W.Frag} {H : Hp} {v : V} {o : Option Int} (h : Fw v o) : Wh K H v o := by
  cases h with
  | int i => exact .int i
  | bl b => exact .bl b
  | non => exact .oth (.base .non) (by decide +kernel : kitB "NoneType" "int" = some false)
  | str x => exact .oth (.base (.str x)) (by decide +kernel : kitB "str" "int" = some false)
  | flt x => exact .oth (.base (.flt x)) (by decide +kernel : kitB "float" "int" = some false)
theorem Fw.kit {K : PySem.W.Frag} {v : V} {u : Value} {o : Option Int} (h : Fw v o) (r : RelV v u) :
    (∃ i t, u = .int i t ∧ o = some i) ∨ (o = none ∧ ∃ T', PySem.W.KitX K u (.type T') (fun _ => True) ∧ u ≠ .builtin "__main__.__loader__#opaque" ∧ (kitB T' "int" = some false ∨ (kitB T' "int" = some true ∧ kitB T' "bool" = some true))) := by
  cases h with
  | int i => obtain ⟨t, e⟩ := (show ∃ t, u = Value.int i t from r); exact .inl ⟨i, t, e, rfl⟩
  | bl b => cases (show u = Value.bool b from r); exact .inr ⟨rfl, _, PySem.W.kitx_bool, fun z => (nomatch z), .inr ⟨by decide +kernel, by decide +kernel⟩⟩
  | non => cases (show u = Value.none from r); exact .inr ⟨rfl, _, PySem.W.kitx_none, fun z => (nomatch z), .inl (by decide +kernel)⟩
  | str x => obtain ⟨t, e⟩ := (show ∃ t, u = Value.str x t from r); cases e; exact .inr ⟨rfl, _, PySem.W.kitx_str, fun z => (nomatch z), .inl (by decide +kernel)⟩
  | flt x => obtain ⟨t, e⟩ := (show ∃ t, u = Value.float x t from r); cases e; exact .inr ⟨rfl, _, PySem.W.kitx_float, fun z => (nomatch z), .inl (by decide +kernel)⟩
section
variable {P : Program} {w : World} {K : PySem.W.Frag} {mg : Str → Option Value} {base : Heap}
theorem qf_whole (T : Txt K mg base) {v : V} {u : Value} {o : Option Int} (h : Fw v o) (r : RelV v u) : QF P w K mg 1 T.a_is_whole [u] (fun _ => True) (· = .bool o.isSome) := by
  refine qf_ret T.F_is_whole rfl rfl rfl (by decide) T.b_is_whole rfl rfl (fun _ _ _ _ => trivial) (fun B env hd hdp e1 e2 e3 => ?_) (by decide)
  have ok := bq_ok (P := P) (w := w) (K := K) (mg := mg) (ps := ["thing"]) (us := [u]) (pre := fun _ => True) (B := B) (fun _ _ _ _ => trivial) e1 rfl e2 e3
  have th : ∀ p, QE (bq P w K mg ["thing"] [u] (fun _ => True) env B) (.Name "thing" p) (· = u) := fun p => bq_par ok e1 rfl List.mem_cons_self
  rcases h.kit (K := K) r with ⟨i, t, rfl, rfl⟩ | ⟨rfl, T', Z, nx, ti | ⟨ti, tb⟩⟩
  · exact q_and (a := true) ok (q_isi ok (th _) PySem.W.kitx_int (fun _ _ => trivial) (by decide +kernel : kitB "int" "int" = some true) (fun z => nomatch z) (bq_glob e1 rfl) T.n_isinstance (bq_glob e1 rfl) T.n_int (by decide +kernel) rfl)
      (fun _ => q_not (a := false) (q_isi ok (th _) PySem.W.kitx_int (fun _ _ => trivial) (by decide +kernel : kitB "int" "bool" = some false) (fun z => nomatch z) (bq_glob e1 rfl) T.n_isinstance (bq_glob e1 rfl) T.n_bool (by decide +kernel) rfl) rfl) (fun z => nomatch z)
  · exact q_and (a := false) ok (q_isi ok (th _) Z (fun _ _ => trivial) ti nx (bq_glob e1 rfl) T.n_isinstance (bq_glob e1 rfl) T.n_int (by decide +kernel) rfl) (fun z => nomatch z) (fun _ => rfl)
  · exact q_and (a := true) ok (q_isi ok (th _) Z (fun _ _ => trivial) ti nx (bq_glob e1 rfl) T.n_isinstance (bq_glob e1 rfl) T.n_int (by decide +kernel) rfl)
      (fun _ => q_not (a := true) (q_isi ok (th _) Z (fun _ _ => trivial) tb nx (bq_glob e1 rfl) T.n_isinstance (bq_glob e1 rfl) T.n_bool (by decide +kernel) rfl) rfl) (fun z => nomatch z)
theorem qf_within (T : Txt K mg base) {v : V} {u : Value} {o : Option Int} {n : Int} {tn : Tok} (h : Fw v o) (r : RelV v u) : QF P w K mg 2 T.a_is_within [u, .int n tn] (fun _ => True) (· = .bool (inI o n)) := by
  refine qf_ret T.F_is_within rfl rfl rfl (by decide) T.b_is_within rfl rfl (fun _ _ _ _ => trivial) (fun B env hd hdp e1 e2 e3 => ?_) (by decide)
  have ok := bq_ok (P := P) (w := w) (K := K) (mg := mg) (ps := ["thing", "most"]) (us := [u, .int n tn]) (pre := fun _ => True) (B := B) (fun _ _ _ _ => trivial) e1 rfl e2 e3
  have th : ∀ p, QE (bq P w K mg ["thing", "most"] [u, .int n tn] (fun _ => True) env B) (.Name "thing" p) (· = u) := fun p => bq_par ok e1 rfl List.mem_cons_self
  have mo : ∀ p, QE (bq P w K mg ["thing", "most"] [u, .int n tn] (fun _ => True) env B) (.Name "most" p) (· = .int n tn) := fun p => bq_par ok e1 rfl (List.mem_cons_of_mem _ List.mem_cons_self)
  refine q_and (a := o.isSome) ok (q_call1 ok hd hdp (qf_whole T h r) (fun _ _ => trivial) (bq_glob e1 rfl) T.m_is_whole T.F_is_whole.kp (th _)) (fun e => ?_) (fun e => ?_)
  · obtain ⟨i, rfl⟩ := Option.isSome_iff_exists.mp e
    cases h
    obtain ⟨t, rfl⟩ := (show ∃ t, u = Value.int i t from r)
    have im : ∀ {e : Expr} {j : Int} {t : Tok}, QE (bq P w K mg ["thing", "most"] [.int i t, .int n tn] (fun _ => True) env B) e (· = .int j t) → True := fun _ => trivial
    refine q_le2 (i := 1) (j := i) (k := n) ok (q_int fun t => ⟨t, rfl⟩) (fun E s g => wpAny_mono (th _ E s g) (fun y s' z => ⟨⟨t, z.1⟩, z.2⟩) fun _ _ z => z) (fun E s g => wpAny_mono (mo _ E s g) (fun y s' z => ⟨⟨tn, z.1⟩, z.2⟩) fun _ _ z => z) rfl
  · cases o with
    | none => rfl
    | some _ => cases e
/-- what the element is_within(seat, seats) says -/
def CnW (i : Nat) : L2.St → Hp → V → (Value → Prop) → Prop := fun σ _ w R => ∃ n o, σ[i]? = some (some (.int n)) ∧ Fw w o ∧ ∀ y, y = .bool (inI o n) → R y
theorem el_within {X : Cx} (T : Txt X.K X.mg X.base) (hr : Room 2 X.A) (gl : X.env.globals = mainGlobals) {scope : Scope} {tab : Addr} {i : Nat} {p1 p2 p3 pos : Pos} (hk : scope.kind = .function) (k1 : scope.names.lookup ("seat" : Str) = some .local) (k2 : scope.names.lookup ("seats" : Str) = some .free) (k3 : scope.names.lookup ("is_within" : Str) = some .globalImplicit)
    (hN : X.N[i]? = some "seats") (hv : X.env.scope.names.lookup ("seats" : Str) = some .cell) (hc : ∀ cells : List (Str × Addr), (cloFrom cells scope.names []).lookup ("seats" : Str) = some ((cells.lookup ("seats" : Str)).getD 0)) :
    EltL X scope "seat" tab (.Call (.Name "is_within" p1) [.Name "seat" p2, .Name "seats" p3] [] pos) (CnW i) := by
  intro pins σ H s I ⟨ps, hT⟩ w R hC u ru C code A h1 h2 h3
  obtain ⟨n, o, hn, hf, hR⟩ := hC
  obtain ⟨m, hm, hl⟩ := I.loc
  obtain ⟨u', ru', lk⟩ := hl i _ _ hN hn (.inr (.inl hv))
  obtain ⟨tn, rfl⟩ := (show ∃ t, u' = Value.int n t from ru')
  rcases lk with ⟨z, _⟩ | ⟨_, c, hcl, isc⟩
  · have z2 : X.env.kindOf ("seats" : Str) = some .cell := hv
    rw [z2] at z
    cases z
  have ok := qxOf_ok (X := X) gl hk (x := "seat") (P := tab) (h1 := s.heap) (C := C) (code := code) (v := u) (A := A)
  have cT : c ≠ tab := fun z => by
    have := I.freeC _ c hcl
    rw [z, hT] at this
    cases this
  have seat : QE (qxOf X scope "seat" tab s.heap C code u A) (.Name "seat" p2) (· = u) := q_loc ok k1 (fun h g => g.2.2) rfl
  have seats : QE (qxOf X scope "seat" tab s.heap C code u A) (.Name "seats" p3) (· = .int n tn) := q_free ok (c := c) k2 (by
    show (cloFrom X.env.cells scope.names []).lookup ("seats" : Str) = some c
    rw [hc, hcl]; rfl) (fun h g => by
      obtain ⟨ob, ho, hd⟩ := isc
      exact ⟨ob, g.2.1 c ob cT ho, hd⟩) rfl
  have dp := hr.dp
  have cl : QE (qxOf X scope "seat" tab s.heap C code u A) (.Call (.Name "is_within" p1) [.Name "seat" p2, .Name "seats" p3] [] pos) (· = .bool (inI o n)) :=
    q_call2 ok h1 (by show A.depth + 2 < _; omega) (qf_within T hf ru) (fun _ _ => trivial) k3 T.m_is_within T.F_is_within.kp seat seats
  exact fun E s g => wpAny_mono (cl E s g) (fun y s' z => ⟨hR y z.1, z.2⟩) fun _ _ z => z
end
end Ap


namespace Ap
open PySem L2 PySem.Spec PyProof.Rows
/-- a net's ties are passed -/
abbrev Nt (H : Hp) (v : V) (ts : List Tie) : Prop := Da (fun _ => True) H v (netD ts)
theorem Nt.kp {H H' : Hp} {v : V} {ts : List Tie} (h : Nt H v ts) (k : Kp [] H H') : Nt H' v ts := h.keep k (fun _ _ => nin0) fun _ h => h
def tkey (t : Tie) : List Int := [min t.1 t.2, max t.1 t.2]
theorem tkey_apart {s t : Tie} (h : Apart s t) : tkey s ≠ tkey t := fun e => by
  unfold tkey at e
  simp only [List.cons.injEq, and_true] at e
  obtain ⟨h1, h2⟩ := h
  omega
def spSeats : Sp := fun vs H Q _ => ∃ n : Nat, vs = [.int n] ∧ 3 ≤ n ∧ n ≤ 40 ∧ Q .non H
def spTies (tb : List Addr) : Sp := fun vs H Q _ => ∃ (n : Nat) (ts : List Tie) (v : V), vs = [.int n, v] ∧ NetS (up n) ts ∧ ts.length ≤ 900 ∧ Nt H v ts ∧ Tabs tb H ∧ ∀ H', Kp [] H H' → Q .non H'
section
variable {P : Program} {w : World} {K : PySem.W.Frag} {mg : Str → Option Value} {base : Heap}
theorem ok_check_seats (T : Txt K mg base) : FnOk P w K mg base CX0 3 T.a_check_seats T.fd_check_seats ["seats"] spSeats := by
  refine fnK_of0 T.F_check_seats sc_check_seats (fun vs H Q E h => ?_) (fun cdv A outer s H vs Q E hcd hr h => ?_)
  · obtain ⟨n, rfl, _⟩ := h
    rfl
  · obtain ⟨n, rfl, n1, n2, q⟩ := h
    refine ⟨_, (pss_one (ps_if (PW.pt (pw_or (pt_not (pt_val (pe_call (ok_is_within T) (hr.mono (by decide)) rfl T.m_is_within T.F_is_within.kp T.b_is_within .nil pass0 (pa_cons (pv 0) (pa_cons (pe_glob (v := .int 40) rfl T.v_MOST_SEATS ⟨_, rfl⟩) pa_nil))))) (pw_or1 (pt_cmpR op_lt (pv 0) (pe_glob (v := .int 3) rfl T.v_FEWEST_SEATS ⟨_, rfl⟩) (nomark _)))))
      (pss_one ps_never)
      pss_nil)), ?_⟩
    rw [show start ["seats"] [.int n] = [some (.int n)] from rfl]
    walk_at "go"
    refine ⟨_, _, _, rfl, .int _, ?_⟩
    walk_at "go"
    refine g_kX (by simp [inI]; omega) ?_
    walk_at "go"
    refine g_kDX (by omega) ?_
    walk_at "go"
    exact q
theorem ok_check_ties (T : Txt K mg base) : FnOk P w K mg base CX0 4 T.a_check_ties T.fd_check_ties ["seats", "ties"] (spTies T.tbs) := by
  refine fnK_of0 T.F_check_ties sc_check_ties (fun vs H Q E h => ?_) (fun cdv A outer s H vs Q E hcd hr h => ?_)
  · obtain ⟨n, ts, p, rfl, _⟩ := h
    rfl
  · obtain ⟨n, ts, v, rfl, hS, few, hN, hT, q⟩ := h
    obtain ⟨p, xs, rfl, -, hp, hD⟩ := hN.list_inv
    refine ⟨_, (pss_cons (ps_if (pt_not (pt_val (pe_callB call_isi (by rfl) T.n_isinstance (by decide +kernel) (pa_cons (pv 1) (pa_cons (pe_bltn (v := .ty "list") (u := .type "list") rfl T.n_list (by decide +kernel) rfl) pa_nil)))))
      (pss_one ps_never)
      pss_nil)
    (pss_cons (ps_set (i := 2) sc_check_ties.nd rfl (Or.inl rfl) (pe_callTy0 Sx.cr_newI (by rfl) T.n_set (by decide +kernel)))
    (pss_one (ps_for PassesOwn.never rfl (pi_enum (by rfl) T.n_enumerate (pa_cons (pv 1) pa_nil)) (pg_tup rfl (pgs_cons (pg_name (i := 3) sc_check_ties.nd rfl (Or.inl rfl)) (pgs_cons (pg_name (i := 4) sc_check_ties.nd rfl (Or.inl rfl)) pgs_nil)))
      (pss_cons (ps_if (PW.pt (pw_or (pt_not (pt_val (pe_callB call_isi (by rfl) T.n_isinstance (by decide +kernel) (pa_cons (pv 4) (pa_cons (pe_bltn (v := .ty "list") (u := .type "list") rfl T.n_list (by decide +kernel) rfl) pa_nil))))) (pw_or (pt_cmpR op_ne (pe_callB cr_len (by rfl) T.n_len (by decide +kernel) (pa_cons (pv 4) pa_nil)) pe_int (nomark _)) (pw_or1 (pt_not (pt_val (pe_allL (P := T.p_check_ties) hr rfl T.n_all T.TB_check_ties (hcd.symm.trans T.k_check_ties) (gs_of rfl rfl (by decide) rfl rfl (by decide)) (pv 4) (el_within T (hr.mono (by decide)) rfl rfl rfl rfl rfl (i := 0) rfl rfl (fun _ => rfl)) (fun _ => rfl))))))))
        (pss_one ps_never)
        pss_nil)
      (pss_cons (ps_if (PW.pt (pw_or (pt_cmpR op_eq (pe_ix ix_list (pv 4) pe_int (fun _ _ => rfl)) (pe_ix ix_list (pv 4) pe_int (fun _ _ => rfl)) (nomark _)) (pw_or1 (pt_cmpR (Sx.op_inI hr.u64) (pe_tup (pa_cons (pe_callB (cr_min rfl) (by rfl) T.n_min (by decide +kernel) (pa_cons (pv 4) pa_nil)) (pa_cons (pe_callB (cr_max rfl) (by rfl) T.n_max (by decide +kernel) (pa_cons (pv 4) pa_nil)) pa_nil))) (pv 2) (by rfl)))))
        (pss_one ps_never)
        pss_nil)
      (pss_one (ps_expr (Sx.pe_addI hr.u64 (pv 2) (pa_cons (pe_tup (pa_cons (pe_callB (cr_min rfl) (by rfl) T.n_min (by decide +kernel) (pa_cons (pv 4) pa_nil)) (pa_cons (pe_callB (cr_max rfl) (by rfl) T.n_max (by decide +kernel) (pa_cons (pv 4) pa_nil)) pa_nil))) pa_nil)))))))))), ?_⟩
    rw [show start ["seats", "ties", "seen", "index", "tie"] [.int n, .ref p] = [some (.int n), some (.ref p), none, none, none] from rfl]
    walk_at "go"
    refine g_isi (T' := "list") (.base (.lst hp)) (by decide +kernel : kitB "list" "list" = some true) ?_
    walk_at "go"
    refine ⟨rfl, fun S hSn => ?_⟩
    walk_at "go"
    have hS0 : H S = none := hSn
    refine g_it (walk_enum (xs := xs)) (fun i σ' H' => ∃ x3 x4 L, σ' = [some (.int n), some (.ref p), some (.ref S), x3, x4] ∧ Kp [] H H' ∧ H' S = some (Sx.SetI P w S L) ∧ Sx.Tups K H' L ∧ L.length ≤ i ∧ ∀ e ∈ L, ∃ t ∈ ts.take i, e.2 = tkey t)
      ⟨_, _, [], rfl, (Kp.refl _ _).put hS0, upd_same, fun _ z => (nomatch z), Nat.le_refl _, fun _ z => (nomatch z)⟩ (fun i σ' H' _ h => ?_) ?_ ?_
    · obtain ⟨_, _, _, _, hK, _⟩ := h
      exact SqL.of (hK.lst nin0 hp)
    · rintro i x σ' H' H'' hi ⟨x3, x4, L, rfl, hK, hSet, hTu, hLn, hLm⟩ ⟨Tp, xi, y, rfl, hTp, rfl, hx1, hx2⟩
      cases hx1
      have hp' : H' p = some (.lst xs) := hK.lst nin0 hp
      obtain ⟨d, hd, hy⟩ := hD.getV hx2
      rw [List.getElem?_map] at hd
      obtain ⟨t, ht, rfl⟩ := Option.map_eq_some_iff.mp hd
      have hy := hy.keep (hK.put (hK.free hTp) : Kp [] H (upd H' Tp (.tup [.int (i : Nat), y]))) (fun _ _ => nin0) (fun _ h => h)
      obtain ⟨q1, rfl, -, hq⟩ := Da.ints_inv (ns := [t.1, t.2]) hy
      have tin := List.mem_of_getElem? ht
      obtain ⟨m1, m2, ne⟩ := hS.mem t tin
      have b1 := up_mem.mp m1
      have b2 := up_mem.mp m2
      walk_at "go"
      refine g_isi (T' := "list") (.base (.lst hq)) (by decide +kernel : kitB "list" "list" = some true) ?_
      walk_at "go"
      refine g_kNX rfl ?_
      walk_at "go"
      have k1 : Kp [] H (upd H' Tp (.tup [.int (i : Nat), .ref q1])) := hK.put (hK.free hTp)
      have ST : S ≠ Tp := ne_of_none hSet hTp
      refine ⟨q1, [.int t.1, .int t.2], fun _ => true, rfl, SqL.of hq, fun w' hw' => ?_, k1.tabs hT T.p_check_ties List.mem_cons_self, fun H2 hT2 => ?_⟩
      · have one : ∀ j : Int, 1 ≤ j → j ≤ n → CnW 0 [some (.int n), some (.ref p), some (.ref S), some (.int (i : Nat)), some (.ref q1)] (upd H' Tp (.tup [.int (i : Nat), .ref q1])) (.int j) (· = .bool true) := fun j j1 j2 =>
          ⟨n, some j, rfl, .int j, fun y e => by
            have : inI (some j) n = true := by simp [inI, j1, j2]
            rw [this] at e
            exact e⟩
        rcases List.mem_cons.mp hw' with rfl | hw'
        · exact one _ b1.1 b1.2
        · obtain rfl := List.mem_singleton.mp hw'
          exact one _ b2.1 b2.2
      have k2 : Kp [] (upd H' Tp (.tup [.int (i : Nat), .ref q1])) H2 := Kp.tabbed T.lg_check_ties (k1.tabs hT T.p_check_ties List.mem_cons_self) hT2
      have hS2 : H2 S = some (Sx.SetI P w S L) := k2.look nin0 (by rw [upd_ne ST]; exact hSet) (ntb rfl)
      have hq2 : H2 q1 = some (.lst [.int t.1, .int t.2]) := k2.lst nin0 hq
      have kk : Kp [] H' H2 := ((Kp.refl _ _).put hTp).trans k2
      have hTu2 : Sx.Tups K H2 L := Sx.Tups.kp hTu kk
      walk_at "go"
      refine g_kX rfl ?_
      walk_at "go"
      refine g_kDX ne ?_
      walk_at "go"
      refine ⟨q1, [t.1, t.2], rfl, SqL.of hq2, Nat.succ_pos _, fun a ha1 ha2 => ?_⟩
      obtain rfl : a = min t.1 t.2 := by
        have := ha2 t.1 (by simp)
        have := ha2 t.2 (by simp)
        simp at ha1
        omega
      walk_at "go"
      refine ⟨q1, [t.1, t.2], rfl, SqL.of hq2, Nat.succ_pos _, fun b hb1 hb2 => ?_⟩
      obtain rfl : b = max t.1 t.2 := by
        have := hb2 t.1 (by simp)
        have := hb2 t.2 (by simp)
        simp at hb1
        omega
      walk_at "go"
      rename_i W hW
      have nm : tkey t ∉ L.map (·.2) := fun z => by
        obtain ⟨e, he, ee⟩ := List.mem_map.mp z
        obtain ⟨t0, ht0, et⟩ := hLm e he
        obtain ⟨j, hj, rfl⟩ := List.getElem_of_mem ht0
        rw [List.length_take] at hj
        rw [List.getElem_take] at et
        have il := (List.getElem?_eq_some_iff.mp ht)
        obtain ⟨il, et2⟩ := il
        have ap := List.pairwise_iff_getElem.mp hS.ap j i (by omega) il (by omega)
        rw [et2] at ap
        exact tkey_apart ap (et.symm.trans ee)
      have kW : Kp [] H' (upd H2 W (.tup [.int (min t.1 t.2), .int (max t.1 t.2)])) := kk.put (kk.free hW)
      refine ⟨W, S, tkey t, L, rfl, rfl, SqT.of upd_same, by walk_at "look", hTu.kp kW, ?_⟩
      walk_at "go"
      refine g_kDX nm ?_
      walk_at "go"
      refine ⟨q1, [t.1, t.2], rfl, SqL.of (by walk_at "look"), Nat.succ_pos _, fun a ha1 ha2 => ?_⟩
      obtain rfl : a = min t.1 t.2 := by
        have := ha2 t.1 (by simp)
        have := ha2 t.2 (by simp)
        simp at ha1
        omega
      walk_at "go"
      refine ⟨q1, [t.1, t.2], rfl, SqL.of (by walk_at "look"), Nat.succ_pos _, fun b hb1 hb2 => ?_⟩
      obtain rfl : b = max t.1 t.2 := by
        have := hb2 t.1 (by simp)
        have := hb2 t.2 (by simp)
        simp at hb1
        omega
      walk_at "go"
      rename_i W2 hW2
      have kW2 := kW.put (o := .tup [.int (min t.1 t.2), .int (max t.1 t.2)]) (kW.free hW2)
      have S2 : (upd (upd H2 W (.tup [.int (min t.1 t.2), .int (max t.1 t.2)])) W2 (.tup [.int (min t.1 t.2), .int (max t.1 t.2)])) S = some (Sx.SetI P w S L) := by walk_at "look"
      have lenx : xs.length = ts.length := by rw [hD.length, List.length_map]
      refine ⟨W2, S, tkey t, L, rfl, rfl, SqT.of upd_same, S2, hTu.kp kW2, by omega, fun L' _ hL' => ?_⟩
      have pm := hL' nm
      walk_at "go"
      have SW2 : W2 ≠ S := fun z => by rw [z, upd_ne (ne_of_none hS2 hW)] at hW2; rw [hS2] at hW2; cases hW2
      refine ⟨_, _, L', rfl, (hK.trans kW2).put hS0 (NC.setI (by walk_at "look")), upd_same, fun e he => ?_, by rw [pm.length_eq, List.length_cons]; omega, fun e he => ?_⟩
      · have up1 : ∀ b, b ≠ S → ∀ o, (upd (upd H2 W (.tup [.int (min t.1 t.2), .int (max t.1 t.2)])) W2 (.tup [.int (min t.1 t.2), .int (max t.1 t.2)])) b = some o → (upd (upd (upd H2 W (.tup [.int (min t.1 t.2), .int (max t.1 t.2)])) W2 (.tup [.int (min t.1 t.2), .int (max t.1 t.2)])) S (Sx.SetI P w S L')) b = some o := fun b hb o e => by rw [upd_ne hb]; exact e
        rcases List.mem_cons.mp (pm.mem_iff.mp he) with rfl | he
        · exact SqT.of (up1 W2 SW2 _ upd_same)
        · rcases hTu.kp kW2 e he with (z | ⟨o, z⟩) | z
          · exact .inl (.inl (up1 _ (fun c => by rw [c, S2] at z; cases z) _ z))
          · exact .inl (.inr ⟨o, up1 _ (fun c => by rw [c, S2] at z; cases z) _ z⟩)
          · exact .inr z
      · rw [List.take_add_one, ht]
        rcases List.mem_cons.mp (pm.mem_iff.mp he) with rfl | he
        · exact ⟨t, List.mem_append_right _ (List.mem_singleton.mpr rfl), rfl⟩
        · obtain ⟨t0, h0, e0⟩ := hLm e he
          exact ⟨t0, List.mem_append_left _ h0, e0⟩
    · rintro σ' H' ⟨_, _, _, rfl, hK, _⟩
      walk_at "go"
      exact q _ hK

end
end Ap
namespace Ap
open PySem L2 PySem.Spec PyProof.Rows
theorem nodup_le {α : Type} [DecidableEq α] : ∀ {l D : List α}, l.Nodup → (∀ x ∈ l, x ∈ D) → l.length ≤ D.length
  | [], _, _, _ => Nat.zero_le _
  | x :: l, D, n, h => by
    obtain ⟨n1, n2⟩ := List.nodup_cons.mp n
    have hx := h x List.mem_cons_self
    have := nodup_le (D := D.erase x) n2 fun y hy => (List.mem_erase_of_ne (show y ≠ x from fun z => n1 (z ▸ hy))).mpr (h y (List.mem_cons_of_mem _ hy))
    rw [List.length_erase_of_mem hx] at this
    have := List.length_pos_of_mem hx
    simp only [List.length_cons]
    omega
/-- all pairs x < y of 1 .. 40 -/
def allPairs : List (List Int) := (up 40).flatMap fun x => ((up 40).filter (x < ·)).map fun y => [x, y]
theorem NetS.few {n : Nat} {ts : List Tie} (h : NetS (up n) ts) (hn : n ≤ 40) : ts.length ≤ 900 := by
  have nd : (ts.map tkey).Nodup := List.pairwise_map.mpr (h.ap.imp tkey_apart)
  have sub : ∀ k ∈ ts.map tkey, k ∈ allPairs := fun k hk => by
    obtain ⟨t, ht, rfl⟩ := List.mem_map.mp hk
    obtain ⟨m1, m2, ne⟩ := h.mem t ht
    have b1 := up_mem.mp m1
    have b2 := up_mem.mp m2
    exact List.mem_flatMap.mpr ⟨min t.1 t.2, up_mem.mpr (by omega), List.mem_map.mpr ⟨max t.1 t.2, List.mem_filter.mpr ⟨up_mem.mpr (by omega), decide_eq_true (by omega)⟩, rfl⟩⟩
  have le := nodup_le nd sub
  have c : allPairs.length = 780 := by decide +kernel
  rw [List.length_map, c] at le
  omega
def spNet2 (tb : List Addr) : Sp := fun vs H Q _ => ∃ (n : Nat) (ts : List Tie) (v : V), vs = [.int n, v] ∧ 3 ≤ n ∧ n ≤ 40 ∧ NetS (up n) ts ∧ Nt H v ts ∧ Tabs tb H ∧ ∀ H', Kp [] H H' → Q .non H'
section
variable {P : Program} {w : World} {K : PySem.W.Frag} {mg : Str → Option Value} {base : Heap}
theorem ok_check_net (T : Txt K mg base) : FnOk P w K mg base CX0 5 T.a_check_net T.fd_check_net ["seats", "ties"] (spNet2 T.tbs) := by
  refine fnK_of0 T.F_check_net sc_check_net (fun vs H Q E h => ?_) (fun cdv A outer s H vs Q E hcd hr h => ?_)
  · obtain ⟨n, ts, v, rfl, _⟩ := h
    rfl
  · obtain ⟨n, ts, v, rfl, n1, n2, hS, hN, hT, q⟩ := h
    refine ⟨_, (pss_cons (ps_expr (pe_call (ok_check_seats T) (hr.mono (by decide)) rfl T.m_check_seats T.F_check_seats.kp T.b_check_seats .nil pass0 (pa_cons (pv 0) pa_nil)))
    (pss_one (ps_expr (pe_call (ok_check_ties T) (hr.mono (by decide)) rfl T.m_check_ties T.F_check_ties.kp T.b_check_ties .nil pass0 (pa_cons (pv 0) (pa_cons (pv 1) pa_nil)))))), ?_⟩
    rw [show start ["seats", "ties"] [.int n, v] = [some (.int n), some (v)] from rfl]
    walk_at "go"
    refine ⟨n, rfl, n1, n2, ?_⟩
    walk_at "go"
    refine ⟨n, ts, v, rfl, hS, hS.few n2, hN, hT, fun H' hK => ?_⟩
    walk_at "go"
    exact q H' hK

end
end Ap


namespace Ap
open PySem L2 PySem.Spec PyProof.Rows
/-- the seats tied to k, in the order of the ties -/
def nearL (ts : List Tie) (k : Int) : List Int := ts.filterMap fun t => if t.1 = k then some t.2 else if t.2 = k then some t.1 else none
theorem nearL_mem {ts : List Tie} {k y : Int} (ne : ∀ t ∈ ts, t.1 ≠ t.2) : y ∈ nearL ts k ↔ (k, y) ∈ ts ∨ (y, k) ∈ ts := by
  unfold nearL
  rw [List.mem_filterMap]
  constructor
  · rintro ⟨⟨a, b⟩, ht, e⟩
    simp only at e
    split at e
    · rename_i h
      cases e
      subst h
      exact .inl ht
    · split at e
      · rename_i h
        cases e
        subst h
        exact .inr ht
      · cases e
  · rintro (h | h)
    · exact ⟨_, h, by simp⟩
    · refine ⟨_, h, ?_⟩
      have := ne _ h
      simp [show ¬ y = k from this]
theorem nearL_snoc {ts : List Tie} {t : Tie} {k : Int} : nearL (ts ++ [t]) k = nearL ts k ++ (if t.1 = k then [t.2] else if t.2 = k then [t.1] else []) := by
  unfold nearL
  rw [List.filterMap_append]
  congr 1
  simp only [List.filterMap_cons, List.filterMap_nil]
  split
  · rename_i h
    split at h
    · cases h
    · rename_i h1
      split at h
      · cases h
      · rename_i h2
        rw [if_neg h1, if_neg h2]
  · rename_i h
    split at h
    · rename_i h1
      cases h
      rw [if_pos h1]
    · rename_i h1
      split at h
      · rename_i h2
        cases h
        rw [if_neg h1, if_pos h2]
      · cases h
/-- a dict of these seats -/
def nkv (ys : List Int) : List (Key × V) := ys.map fun y => (Sum.inl y, V.bl true)
theorem nkv_val {ys : List Int} {y : Int} : (valV (nkv ys) (Sum.inl y)).isSome = decide (y ∈ ys) := by
  rw [← valV_any, Bool.eq_iff_iff, List.any_eq_true, decide_eq_true_eq]
  constructor
  · rintro ⟨⟨k, v⟩, hm, e⟩
    obtain ⟨z, hz, e2⟩ := List.mem_map.mp hm
    cases e2
    simp at e
    exact e ▸ hz
  · intro h
    exact ⟨_, List.mem_map.mpr ⟨y, h, rfl⟩, by simp⟩
theorem nkv_put {ys : List Int} {y : Int} (h : y ∉ ys) : putK (nkv ys) (Sum.inl y) (V.bl true) = nkv (ys ++ [y]) := by
  rw [putK_new]
  · unfold nkv
    rw [List.map_append]; rfl
  · have := nkv_val (ys := ys) (y := y)
    rw [decide_eq_false h] at this
    cases e : valV (nkv ys) (Sum.inl y) with
    | none => rfl
    | some _ => rw [e] at this; cases this
/-- the net's near stands at v: a new list of n + 1 new dicts -/
structure NearAt (H : Hp) (np : Addr) (ds : List Addr) (n : Nat) (ts : List Tie) (H' : Hp) : Prop where
  new : H np = none
  lst : H' np = some (.lst (ds.map V.ref))
  len : ds.length = n + 1
  nd : ds.Nodup
  news : ∀ d ∈ ds, H d = none ∧ d ≠ np
  dct : ∀ (k : Nat) d, ds[k]? = some d → H' d = some (.dK (nkv (nearL ts k)))
def spNear : Sp := fun vs H Q _ => ∃ (n : Nat) (ts : List Tie) (v : V), vs = [.int n, v] ∧ n ≤ 40 ∧ NetS (up n) ts ∧ Nt H v ts ∧ ∀ np ds H', Kp [] H H' → NearAt H np ds n ts H' → Q (.ref np) H'
section
variable {P : Program} {w : World} {K : PySem.W.Frag} {mg : Str → Option Value} {base : Heap}
theorem ok_near_in (T : Txt K mg base) : FnOk P w K mg base CX0 1 T.a_near_in T.fd_near_in ["seats", "ties"] spNear := by
  refine fnK_of0 T.F_near_in sc_near_in (fun vs H Q E h => ?_) (fun cdv A outer s H vs Q E hcd hr h => ?_)
  · obtain ⟨n, ts, v, rfl, _⟩ := h
    rfl
  · obtain ⟨n, ts, v, rfl, n2, hS, hN, q⟩ := h
    obtain ⟨p, xs, rfl, -, hp, hA⟩ := hN.list_inv
    refine ⟨_, (pss_cons (ps_setLc (i := 2) (own := [("seat", 5)]) (g := gName 5) (tt := tYes) rfl sc_near_in.nd rfl rfl (sw_true rfl rfl rfl (by decide +kernel)) (pi_range1 (by rfl) T.n_range (pa_cons (pe_op op_add (pv 0) pe_int) pa_nil)) (blkOk_by (N := ["seats", "ties", "near", "one", "two", "seat"]) (sc := defScope s_near_in) (by decide +kernel)) (fun _ _ _ _ _ => (pg_name (i := 5) sc_near_in.nd rfl (Or.inl rfl))) (fun _ _ _ _ _ => pts_nil) (fun _ _ _ _ _ => pe_dnewK))
    (pss_cons (ps_for PassesOwn.never rfl (pi_list (pv 1)) (pg_lst rfl (pgs_cons (pg_name (i := 3) sc_near_in.nd rfl (Or.inl rfl)) (pgs_cons (pg_name (i := 4) sc_near_in.nd rfl (Or.inl rfl)) pgs_nil)))
      (pss_cons (ps_dput hr.u1 (pe_ix ix_list (pv 2) (pv 3) (fun _ _ => rfl)) (pv 4) pe_bl rfl)
      (pss_one (ps_dput hr.u1 (pe_ix ix_list (pv 2) (pv 4) (fun _ _ => rfl)) (pv 3) pe_bl rfl))))
    (pss_one (ps_ret (pv 2))))), ?_⟩
    rw [show start ["seats", "ties", "near", "one", "two", "seat"] [.int n, .ref p] = [some (.int n), some (.ref p), none, none, none, none] from rfl]
    walk_at "go"
    rw [show ((n : Int) + 1).toNat = n + 1 by omega]
    refine g_lc walk_range (w0 := [some (.int n), some (.ref p), none, none, none, none]) rfl fun D hD => ⟨fun i H' => ∃ ds : List Addr, H' D = some (.lst (ds.map V.ref)) ∧ ds.length = i ∧ ds.Nodup ∧ (∀ d ∈ ds, H d = none ∧ d ≠ D ∧ H' d = some (.dK [])) ∧ Kp [] H H', ⟨[], upd_same, rfl, List.nodup_nil, fun _ z => (nomatch z), (Kp.refl _ _).put hD⟩, fun _ _ _ _ => trivial, ?_, ?_⟩
    · rintro i x H1 H' hi ⟨ds, hl, hn, nd, hds, hK⟩ ⟨rfl, rfl⟩
      walk_at "go"
      refine g_kLg rfl ?_
      walk_at "go"
      refine g_dnew fun d hd => ?_
      refine g_kLe (acc := ds.map V.ref) (by walk_at "look") (triv_szl (by rw [List.length_map]; omega)) ⟨ds ++ [d], ?_, ?_, ?_, ?_, ?_⟩
      · rw [List.map_append]; exact upd_same
      · rw [List.length_append, hn]; rfl
      · refine List.nodup_append.mpr ⟨nd, List.nodup_cons.mpr ⟨(nomatch ·), List.nodup_nil⟩, fun a ha b hb z => ?_⟩
        obtain rfl := List.mem_singleton.mp hb
        have := (hds a ha).2.2
        rw [z, hd] at this
        cases this
      · have dD : d ≠ D := fun z => by rw [z, hl] at hd; cases hd
        intro e he
        rcases List.mem_append.mp he with he | he
        · obtain ⟨a, b, c⟩ := hds e he
          exact ⟨a, b, by rw [upd_ne b, upd_ne (ne_of_none c hd)]; exact c⟩
        · obtain rfl := List.mem_singleton.mp he
          exact ⟨hK.free hd, dD, by rw [upd_ne dD]; exact upd_same⟩
      · exact (hK.put (hK.free hd)).put hD
    rintro H1 ⟨ds, hl, hn, nd, hds, hK⟩
    walk_at "go"
    have H0' : ∀ k d, ds[k]? = some d → H1 d = some (.dK (nkv (nearL (ts.take 0) (k : Nat)))) := fun k d e => (hds d (List.mem_of_getElem? e)).2.2
    have news : ∀ d ∈ ds, H d = none ∧ d ≠ D := fun d hd => ⟨(hds d hd).1, (hds d hd).2.1⟩
    have lenx : xs.length = ts.length := by rw [hA.length, List.length_map]
    refine g_forL (xs := xs) (fun i σ' H' => ∃ x3 x4, σ' = [some (.int n), some (.ref p), some (.ref D), x3, x4, none] ∧ Kp [] H H' ∧ H' D = some (.lst (ds.map V.ref)) ∧ ∀ k d, ds[k]? = some d → H' d = some (.dK (nkv (nearL (ts.take i) (k : Nat)))))
      ⟨_, _, rfl, hK, hl, H0'⟩ (fun i σ' H' _ h => ?_) ?_ ?_
    · obtain ⟨_, _, _, hK, _⟩ := h
      exact SqL.of (hK.lst nin0 hp)
    · clear hl hds hK H0' H1
      rintro i x σ' H' hi ⟨x3, x4, rfl, hK, hl, hd⟩
      obtain ⟨dd, hdd, hx⟩ := hA.getV hi
      rw [List.getElem?_map] at hdd
      obtain ⟨t, ht, rfl⟩ := Option.map_eq_some_iff.mp hdd
      have hx := hx.keep hK (fun _ _ => nin0) (fun _ h => h)
      obtain ⟨q1, rfl, -, hq⟩ := Da.ints_inv (ns := [t.1, t.2]) hx
      have hq : H' q1 = some (.lst [.int t.1, .int t.2]) := hq
      have tin := List.mem_of_getElem? ht
      obtain ⟨m1, m2, ne⟩ := hS.mem t tin
      have b1 := up_mem.mp m1
      have b2 := up_mem.mp m2
      obtain ⟨a, ea⟩ : ∃ a : Nat, t.1 = a := ⟨t.1.toNat, by omega⟩
      obtain ⟨b, eb⟩ : ∃ b : Nat, t.2 = b := ⟨t.2.toNat, by omega⟩
      have ha : ds[a]? = some ds[a] := List.getElem?_eq_getElem (by omega)
      have hb : ds[b]? = some ds[b] := List.getElem?_eq_getElem (by omega)
      generalize ds[a] = d1 at ha
      generalize ds[b] = d2 at hb
      have at1 : atI (ds.map V.ref) t.1 = some (.ref d1) := atI_of ea (by rw [List.getElem?_map, ha]; rfl)
      have at2 : atI (ds.map V.ref) t.2 = some (.ref d2) := atI_of eb (by rw [List.getElem?_map, hb]; rfl)
      have same : ∀ {k l : Nat} {d : Addr}, ds[k]? = some d → ds[l]? = some d → k = l := fun {k l d} u v => by
        obtain ⟨h0, f0⟩ := List.getElem?_eq_some_iff.mp u
        obtain ⟨h1, f1⟩ := List.getElem?_eq_some_iff.mp v
        exact (List.getElem_inj nd).mp (f0.trans f1.symm)
      have d12 : d1 ≠ d2 := fun z => by
        have := same ha (z ▸ hb)
        omega
      have lenN : ∀ k, (nkv (nearL (ts.take i) k)).length < sizeLine := fun k => triv_szl (by
        have h1 : (nearL (ts.take i) k).length ≤ (ts.take i).length := List.length_filterMap_le _ _
        have h2 : (ts.take i).length ≤ ts.length := by rw [List.length_take]; omega
        have h3 := hS.few n2
        unfold nkv
        rw [List.length_map]
        omega)
      have apt : ∀ s ∈ ts.take i, Apart s t := fun s hs => by
        obtain ⟨j, hj, rfl⟩ := List.getElem_of_mem hs
        rw [List.length_take] at hj
        rw [List.getElem_take]
        obtain ⟨il, et2⟩ := List.getElem?_eq_some_iff.mp ht
        have ap := List.pairwise_iff_getElem.mp hS.ap j i (by omega) il (by omega)
        rwa [et2] at ap
      have nei : ∀ s ∈ ts.take i, s.1 ≠ s.2 := fun s hs => (hS.mem s (List.mem_of_mem_take hs)).2.2
      have n1 : t.2 ∉ nearL (ts.take i) a := fun z => by
        rcases (nearL_mem nei).mp z with z | z
        · exact (apt _ z).1 ⟨ea.symm, rfl⟩
        · exact (apt _ z).2 ⟨rfl, ea.symm⟩
      have n2' : t.1 ∉ nearL (ts.take i) b := fun z => by
        rcases (nearL_mem nei).mp z with z | z
        · exact (apt _ z).2 ⟨eb.symm, rfl⟩
        · exact (apt _ z).1 ⟨rfl, eb.symm⟩
      walk_at "go"
      refine g_put (k := .inl t.2) (hd a d1 ha) rfl (lenN _) ?_
      rw [nkv_put n1]
      have d1D : D ≠ d1 := Ne.symm (news d1 (List.mem_of_getElem? ha)).2
      have d2D : D ≠ d2 := Ne.symm (news d2 (List.mem_of_getElem? hb)).2
      walk_at "go"
      refine g_put (k := .inl t.1) (kvs := nkv (nearL (ts.take i) b)) (by rw [upd_ne (Ne.symm d12)]; exact hd b d2 hb) rfl (lenN _) ?_
      rw [nkv_put n2']
      walk_at "go"
      refine ⟨_, _, rfl, (hK.put (news d1 (List.mem_of_getElem? ha)).1 (NC.some (hd a d1 ha) rfl)).put (news d2 (List.mem_of_getElem? hb)).1 (NC.some (by rw [upd_ne (Ne.symm d12)]; exact hd b d2 hb) rfl), by rw [upd_ne d2D, upd_ne d1D]; exact hl, fun k d e => ?_⟩
      rw [List.take_add_one, ht]
      show _ = some (HO.dK (nkv (nearL (ts.take i ++ [t]) k)))
      rw [nearL_snoc]
      by_cases c2 : d = d2
      · subst c2
        obtain rfl := same e hb
        rw [upd_same, if_neg (by omega), if_pos eb]
      · by_cases c1 : d = d1
        · subst c1
          obtain rfl := same e ha
          rw [upd_ne c2, upd_same, if_pos ea]
        · rw [upd_ne c2, upd_ne c1, hd k d e, if_neg (fun z => c1 ?_), if_neg (fun z => c2 ?_), List.append_nil]
          · have : k = b := by omega
            subst this
            rw [hb] at e; cases e; rfl
          · have : k = a := by omega
            subst this
            rw [ha] at e; cases e; rfl
    · rintro σ' H' ⟨x3, x4, rfl, hK, hl, hd⟩
      walk_at "go"
      rw [lenx, List.take_of_length_le (Nat.le_refl _)] at hd
      exact q D ds H' hK ⟨hD, hl, hn, nd, news, hd⟩
end
end Ap


namespace Ap
open PySem L2 PySem.Spec PyProof.Rows
/-- the net's near stands at np -/
def NearIs (np : Addr) (n : Nat) (ts : List Tie) (H : Hp) : Prop := ∃ ds : List Addr, H np = some (.lst (ds.map V.ref)) ∧ ds.length = n + 1 ∧ ∀ (k : Nat) d, ds[k]? = some d → H d = some (.dK (nkv (nearL ts k)))
theorem NearIs.kp {np : Addr} {n : Nat} {ts : List Tie} {H H' : Hp} (h : NearIs np n ts H) (k : Kp [] H H') : NearIs np n ts H' := by
  obtain ⟨ds, h1, h2, h3⟩ := h
  exact ⟨ds, k.lst nin0 h1, h2, fun i d e => k.look nin0 (h3 i d e) (ntb rfl)⟩
theorem NearAt.is {H H' : Hp} {np : Addr} {ds : List Addr} {n : Nat} {ts : List Tie} (h : NearAt H np ds n ts H') : NearIs np n ts H' := ⟨ds, h.lst, h.len, h.dct⟩
theorem nearL_tied {n : Nat} {ts : List Tie} (hS : NetS (up n) ts) {x y : Int} : y ∈ nearL ts x ↔ Tied ts x y := nearL_mem fun t ht => (hS.mem t ht).2.2
/-- where two different people sit, there is no tie of a seat with itself -/
theorem not_tied_self {n : Nat} {ts : List Tie} (hS : NetS (up n) ts) {x : Int} : ¬ Tied ts x x := fun h => by
  rcases h with h | h
  · exact (hS.mem _ h).2.2 rfl
  · exact (hS.mem _ h).2.2 rfl
def spCalledIn : Sp := fun vs H Q _ => ∃ (np rp cp : Addr) (n : Nat) (ts : List Tie) (row cs : List Int), vs = [.ref np, .ref rp, .ref cp] ∧ NearIs np n ts H ∧ NetS (up n) ts ∧ H rp = some (.lst (row.map V.int)) ∧ H cp = some (.lst (cs.map V.int)) ∧
  2 ≤ n ∧ n ≤ 40 ∧ Stand n row ∧ (∀ c ∈ cs, c ∈ up n) ∧
  ∀ q rq H', H q = none → H rq = none → Kp [] H H' → H' q = some (.tup [.ref rq, .int (chg ts n row cs)]) → H' rq = some (.lst ((moved ts n row cs).map V.int)) → Q (.ref q) H'
section
variable {P : Program} {w : World} {K : PySem.W.Frag} {mg : Str → Option Value} {base : Heap}
theorem ok_called_in (T : Txt K mg base) : FnOk P w K mg base CX0 2 T.a_called_in T.fd_called_in ["near", "standing", "calls"] spCalledIn := by
  refine fnK_of0 T.F_called_in sc_called_in (fun vs H Q E h => ?_) (fun cdv A outer s H vs Q E hcd hr h => ?_)
  · obtain ⟨np, rp, cp, n, ts, row, cs, rfl, _⟩ := h
    rfl
  · obtain ⟨np, rp, cp, n, ts, row, cs, rfl, hN, hS, hp, hc, n1, n2, hrow, hcs, q⟩ := h
    have ln := hrow.length
    refine ⟨_, (pss_cons (ps_set (i := 3) sc_called_in.nd rfl (Or.inl rfl) (pe_callTy cr_list (by rfl) T.n_list (by decide +kernel) (pa_cons (pv 1) pa_nil)))
    (pss_cons (ps_setDc (i := 4) (own := [("seat", 8), ("person", 9)]) (g := gTup K 2 (gCons (gName 8) (gCons (gName 9) gNil))) (tt := tYes) rfl sc_called_in.nd rfl rfl (sw_trueD rfl rfl rfl (by decide +kernel)) (pi_enumS (by rfl) T.n_enumerate (pa_cons (pv 3) (pa_cons pe_int pa_nil))) (blkOk_by (N := ["near", "standing", "calls", "row", "spot", "changes", "one", "two", "seat", "person"]) (sc := defScope s_called_in) (by decide +kernel)) (fun _ _ _ _ _ => (pg_tup rfl (pgs_cons (pg_name (i := 8) sc_called_in.nd rfl (Or.inl rfl)) (pgs_cons (pg_name (i := 9) sc_called_in.nd rfl (Or.inl rfl)) pgs_nil)))) (fun _ _ _ _ _ => pts_nil) (fun _ _ _ _ _ => (pv 9)) (fun _ _ _ _ _ => (pv 8)))
    (pss_cons (ps_set (i := 5) sc_called_in.nd rfl (Or.inl rfl) pe_int)
    (pss_cons (ps_for PassesOwn.never rfl (pi_list (pv 2)) (pg_name (i := 6) sc_called_in.nd rfl (Or.inl rfl))
      (pss_cons (ps_set (i := 7) sc_called_in.nd rfl (Or.inl rfl) (pe_call (ok_next_round T) (hr.mono (by decide)) rfl T.m_next_round T.F_next_round.kp T.b_next_round .nil pass0 (pa_cons (pv 6) (pa_cons (pe_callB cr_len (by rfl) T.n_len (by decide +kernel) (pa_cons (pv 3) pa_nil)) pa_nil))))
      (pss_one (ps_if (pt_cmp (pc_dnotin hr.u1 (pe_dget hr.u1 (pv 4) (pv 7) (fun _ _ => rfl)) (pe_ix ix_list (pv 0) (pe_dget hr.u1 (pv 4) (pv 6) (fun _ _ => rfl)) (fun _ _ => rfl))) (by rfl))
        (pss_cons (ps_asg (pe_tup (pa_cons (pe_dget hr.u1 (pv 4) (pv 7) (fun _ _ => rfl)) (pa_cons (pe_dget hr.u1 (pv 4) (pv 6) (fun _ _ => rfl)) pa_nil))) (pg_tup rfl (pgs_cons (pg_sub (pv 4) (pv 6) (set_dict hr.u1)) (pgs_cons (pg_sub (pv 4) (pv 7) (set_dict hr.u1)) pgs_nil))))
        (pss_cons (ps_asg (pv 6) (pg_sub (pv 3) (pe_op op_sub (pe_dget hr.u1 (pv 4) (pv 6) (fun _ _ => rfl)) pe_int) set_list))
        (pss_cons (ps_asg (pv 7) (pg_sub (pv 3) (pe_op op_sub (pe_dget hr.u1 (pv 4) (pv 7) (fun _ _ => rfl)) pe_int) set_list))
        (pss_one (ps_aug (i := 5) sc_called_in.nd rfl (Or.inl rfl) pe_int ip_add)))))
        pss_nil))))
    (pss_one (ps_ret (pe_tup (pa_cons (pv 3) (pa_cons (pv 5) pa_nil))))))))), ?_⟩
    rw [show start ["near", "standing", "calls", "row", "spot", "changes", "one", "two", "seat", "person"] [.ref np, .ref rp, .ref cp] = [some (.ref np), some (.ref rp), some (.ref cp), none, none, none, none, none, none, none] from rfl]
    walk_at "go"
    rename_i rw hrw
    refine g_kIEnS (by walk_at "look") (by decide) (by decide) ?_
    have k0 : Kp [] H (upd H rw (.lst (row.map V.int))) := (Kp.refl _ _).put hrw
    refine dc_it (walk_enumS (xs := row.map V.int)) (w0 := [some (.ref np), some (.ref rp), some (.ref cp), some (.ref rw), none, none, none, none, none, none]) rfl fun sp hsp => ⟨fun i H' => H' sp = some (.dK (kvm (row.take i) fun p => .int (seat row p + 0))) ∧ H' rw = some (.lst (row.map V.int)) ∧ Kp [] H H', ⟨upd_same, by walk_at "look", k0.put (k0.free hsp)⟩, fun _ _ _ h => SqL.of h.2.1, ?_, ?_⟩
    · rintro i x H1 H' hi ⟨h1, h2, hK⟩ ⟨Tp, xi, y, rfl, hTp, rfl, hx1, hx2⟩
      cases hx1
      have hx2 : (row.map V.int)[i]? = some y := hx2
      rw [List.getElem?_map] at hx2
      obtain ⟨z, hz, rfl⟩ := Option.map_eq_some_iff.mp hx2
      rw [List.length_map] at hi
      walk_at "go"
      refine g_kDg rfl ?_
      walk_at "go"
      refine g_kDv (k := .inl z) rfl (kvs := kvm (row.take i) fun p => .int (seat row p + 0)) (by walk_at "look") (triv_szl (by rw [kvm_len, List.length_take]; omega)) ⟨?_, ?_, ?_⟩
      · rw [take_succ' hz, ← kvm_new (not_mem_take hrow.nodup hz), seat_at hrow.nodup hz, show (i : Int) + 1 + 0 = 1 + (i : Nat) by omega]
        exact upd_same
      · have : rw ≠ sp := ne_kd h2 h1 (by with_unfolding_all rfl)
        walk_at "look"
      · exact (hK.put (hK.free hTp)).put (k0.free hsp)
    rintro H1 ⟨h1, h2, hK1⟩
    rw [List.length_map, List.take_of_length_le (Nat.le_refl _)] at h1
    walk_at "go"
    have lc : (cs.map V.int).length = cs.length := List.length_map _
    have sp0 : H sp = none := k0.free hsp
    refine g_forL (xs := cs.map V.int) (fun i σ' H' => ∃ x6 x7, σ' = [some (.ref np), some (.ref rp), some (.ref cp), some (.ref rw), some (.ref sp), some (.int (chg ts n row (cs.take i) : Nat)), x6, x7, none, none] ∧
        H' sp = some (.dK (spk 0 row (moved ts n row (cs.take i)))) ∧ H' rw = some (.lst ((moved ts n row (cs.take i)).map V.int)) ∧ Kp [] H H')
      ⟨_, _, rfl, h1, h2, hK1⟩ (fun i σ' H' _ h => ?_) ?_ ?_
    · obtain ⟨_, _, _, _, _, hK⟩ := h
      exact SqL.of (hK.lst nin0 hc)
    · rintro i x σ' H' hx ⟨x6, x7, rfl, hsp', hrw', hK⟩
      rw [List.getElem?_map] at hx
      obtain ⟨c, hcx, rfl⟩ := Option.map_eq_some_iff.mp hx
      have cin := hcs c (List.mem_of_getElem? hcx)
      have n0 : 1 ≤ n := by omega
      have din := nx_mem (n := n) (c := c) n0
      have cd := nx_ne cin n1
      rw [take_succ' hcx, moved_snoc, chg_snoc]
      have hR : Stand n (moved ts n row (cs.take i)) := moved_stand hrow fun d hd => hcs d (List.mem_of_mem_take hd)
      generalize moved ts n row (cs.take i) = R at *
      generalize chg ts n row (cs.take i) = ch at *
      have hlR := hR.length
      have s1 := seat_pos hR cin
      have s2 := seat_pos hR din
      obtain ⟨ds, hN1, hN2, hN3⟩ := hN.kp hK
      obtain ⟨a, ea⟩ : ∃ a : Nat, seat R c = a := ⟨(seat R c).toNat, by omega⟩
      have had : ds[a]? = some ds[a] := List.getElem?_eq_getElem (by omega)
      generalize ds[a] = da at had
      have hda := hN3 a da had
      have at1 : atI (ds.map V.ref) (seat R c + 0) = some (.ref da) := atI_of (n := a) (by omega) (by rw [List.getElem?_map, had]; rfl)
      have v1 : valV (spk 0 row R) (.inl c) = some (.int (seat R c + 0)) := kvm_val (hrow.mem.mpr cin)
      have v2 : valV (spk 0 row R) (.inl (nx n c)) = some (.int (seat R (nx n c) + 0)) := kvm_val (hrow.mem.mpr din)
      walk_at "go"
      rw [List.length_map, hlR]
      refine ⟨n, c, rfl, by omega, ?_⟩
      walk_at "go"
      refine g_get (k := .inl (nx n c)) hsp' rfl v2 ?_
      walk_at "go"
      refine g_get (k := .inl c) hsp' rfl v1 ?_
      walk_at "go"
      refine g_din (k := .inl (seat R (nx n c) + 0)) hda rfl ?_
      have ein : (if false = true then (valV (nkv (nearL ts (a : Int))) (Sum.inl (seat R (nx n c) + 0))).isSome else !(valV (nkv (nearL ts (a : Int))) (Sum.inl (seat R (nx n c) + 0))).isSome) = !decide (Tied ts (seat R c) (seat R (nx n c))) := by
        rw [if_neg (by decide), nkv_val, Int.add_zero, ← ea]
        congr 1
        exact decide_eq_decide.mpr (nearL_tied hS)
      rw [ein]
      walk_at "go"
      refine g_kN (fun e => ?_) (fun e => ?_)
      · have e1 : step ts n R c = R.map (sw c (nx n c)) := by unfold step; rw [if_neg e]
        have s3 : seat (R.map (sw c (nx n c))) c = seat R (nx n c) := by rw [seat_map, sw_l]
        have s4 : seat (R.map (sw c (nx n c))) (nx n c) = seat R c := by rw [seat_map, sw_r]
        have w1 : valV (spk 0 row (R.map (sw c (nx n c)))) (.inl c) = some (.int (seat R (nx n c) + 0)) := by rw [← s3]; exact kvm_val (hrow.mem.mpr cin)
        have w2 : valV (spk 0 row (R.map (sw c (nx n c)))) (.inl (nx n c)) = some (.int (seat R c + 0)) := by rw [← s4]; exact kvm_val (hrow.mem.mpr din)
        rw [e1, if_neg e]
        have spw : sp ≠ rw := ne_kd hsp' hrw' (by with_unfolding_all rfl)
        have lsz : (spk 0 row R).length < sizeLine := triv_szl (by unfold spk; rw [kvm_len]; omega)
        walk_at "go"
        refine g_get (k := .inl (nx n c)) hsp' rfl v2 ?_
        walk_at "go"
        refine g_get (k := .inl c) hsp' rfl v1 ?_
        walk_at "go"
        rename_i Tp hTp
        have spT : sp ≠ Tp := ne_of_none hsp' hTp
        have rwT : rw ≠ Tp := ne_of_none hrw' hTp
        refine g_setD (k := .inl c) (kvs := spk 0 row R) (by walk_at "look") rfl lsz ?_
        walk_at "go"
        refine g_setD (k := .inl (nx n c)) upd_same rfl (triv_szl (by unfold spk; rw [kvm_put (hrow.mem.mpr cin), kvm_len]; omega)) ?_
        rw [spk_swap hrow cin din, upd_upd]
        walk_at "go"
        refine g_get (k := .inl c) upd_same rfl w1 ?_
        walk_at "go"
        have i1 : R[R.idxOf c]? = some c := at_idxOf (hR.mem.mpr cin)
        have i2 : R[R.idxOf (nx n c)]? = some (nx n c) := at_idxOf (hR.mem.mpr din)
        have l1 := (List.getElem?_eq_some_iff.mp i1).1
        have l2 := (List.getElem?_eq_some_iff.mp i2).1
        refine g_setL (xs := R.map V.int) (n := R.idxOf (nx n c)) (by walk_at "look") (ixN_of (by unfold seat; omega) (by rw [List.length_map]; exact l2)) ?_
        walk_at "go"
        refine g_get (k := .inl (nx n c)) (kvs := spk 0 row (R.map (sw c (nx n c)))) (by walk_at "look") rfl w2 ?_
        walk_at "go"
        refine g_setL (xs := (R.map V.int).set (R.idxOf (nx n c)) (.int c)) (n := R.idxOf c) (by walk_at "look") (ixN_of (by unfold seat; omega) (by rw [List.length_set, List.length_map]; exact l1)) ?_
        walk_at "go"
        refine ⟨_, _, rfl, by walk_at "look", ?_, ?_⟩
        · rw [← set_sw hR.nodup i1 i2 (Ne.symm cd), List.map_set, List.map_set]
          exact upd_same
        · exact (((((hK.put (hK.free hTp)).put sp0).put hrw)).put hrw)
      · have e1 : step ts n R c = R := by unfold step; rw [if_pos e]
        rw [e1, if_pos e]
        walk_at "go"
        exact ⟨_, _, rfl, hsp', hrw', hK⟩
    · rintro σ' H' ⟨x6, x7, rfl, hsp', hrw', hK⟩
      rw [lc, List.take_of_length_le (Nat.le_refl _)] at *
      walk_at "go"
      rename_i Tp hTp
      refine q Tp rw _ (hK.free hTp) hrw (hK.put (hK.free hTp)) upd_same ?_
      have rwT : rw ≠ Tp := ne_of_none hrw' hTp
      walk_at "look"
end
end Ap


namespace Ap
open PySem L2 PySem.Spec PyProof.Rows
/-- what is asked of a net, a standing and an order (or calls) -/
structure NSO (n : Nat) (ts : List Tie) (row cs : List Int) : Prop where
  lo : 3 ≤ n
  hi : n ≤ 40
  net : NetS (up n) ts
  row : Stand n row
  cs : ∀ c ∈ cs, c ∈ up n
theorem NSO.two {n : Nat} {ts : List Tie} {row cs : List Int} (h : NSO n ts row cs) : 2 ≤ n := by have := h.lo; omega
abbrev rnd (ts : List Tie) (n : Int) (cs : List Int) : List Int → List Int := fun r => moved ts n r cs
theorem it_stand {ts : List Tie} {n : Nat} {cs : List Int} (hc : ∀ c ∈ cs, c ∈ up n) {row : List Int} (h : Stand n row) : ∀ k, Stand n (it (rnd ts n cs) k row)
  | 0 => h
  | k + 1 => by rw [it_succ]; exact moved_stand (it_stand hc h k) hc
def spBack : Sp := fun vs H Q _ => ∃ (np rp cp : Addr) (n : Nat) (ts : List Tie) (row cs : List Int) (T : Nat), vs = [.ref np, .ref rp, .ref cp] ∧ NearIs np n ts H ∧ H rp = some (.lst (row.map V.int)) ∧ H cp = some (.lst (cs.map V.int)) ∧
  NSO n ts row cs ∧ Per (rnd ts n cs) row T ∧ ∀ H', Kp [] H H' → Q (.int T) H'
def spCalled (tb : List Addr) : Sp := fun vs H Q _ => ∃ (n : Nat) (ts : List Tie) (tv : V) (rp cp : Addr) (row cs : List Int), vs = [.int n, tv, .ref rp, .ref cp] ∧ Nt H tv ts ∧ H rp = some (.lst (row.map V.int)) ∧ H cp = some (.lst (cs.map V.int)) ∧
  NSO n ts row cs ∧ Tabs tb H ∧ ∀ q H', H q = none → Kp [] H H' → H' q = some (.lst ((moved ts n row cs).map V.int)) → Q (.ref q) H'
/-- the standing behind so many rounds -/
def after (ts : List Tie) (n : Int) (cs : List Int) (m : Int) (row : List Int) : List Int := rz (rnd ts n cs) (rnd ts n cs.reverse) m row
def spAfter (tb : List Addr) : Sp := fun vs H Q _ => ∃ (n : Nat) (ts : List Tie) (tv : V) (rp cp : Addr) (row cs : List Int) (m : Int), vs = [.int n, tv, .ref rp, .ref cp, .int m] ∧ Nt H tv ts ∧ H rp = some (.lst (row.map V.int)) ∧ H cp = some (.lst (cs.map V.int)) ∧
  NSO n ts row cs ∧ Stand n cs ∧ Tabs tb H ∧ (1000 < m ∨ m < -1000 → ∃ T : Nat, T < 2 ^ 60 ∧ Per (rnd ts n cs) row T) ∧ ∀ q H', H q = none → Kp [] H H' → H' q = some (.lst ((after ts n cs m row).map V.int)) → Q (.ref q) H'
section
variable {P : Program} {w : World} {K : PySem.W.Frag} {mg : Str → Option Value} {base : Heap}
theorem ok_back_in (T : Txt K mg base) : FnOk P w K mg base CX0 3 T.a_back_in T.fd_back_in ["near", "standing", "order"] spBack := by
  refine fnK_of0 T.F_back_in sc_back_in (fun vs H Q E h => ?_) (fun cdv A outer s H vs Q E hcd hr h => ?_)
  · obtain ⟨np, rp, cp, n, ts, row, cs, per, rfl, _⟩ := h
    rfl
  · obtain ⟨np, rp, cp, n, ts, row, cs, per, rfl, hN, hp, hc, ok, hT, q⟩ := h
    refine ⟨_, (pss_cons (ps_set (i := 3) sc_back_in.nd rfl (Or.inl rfl) (pe_ix ix_tup (pe_call (ok_called_in T) (hr.mono (by decide)) rfl T.m_called_in T.F_called_in.kp T.b_called_in .nil pass0 (pa_cons (pv 0) (pa_cons (pv 1) (pa_cons (pv 2) pa_nil)))) pe_int (fun _ _ => rfl)))
    (pss_cons (ps_set (i := 4) sc_back_in.nd rfl (Or.inl rfl) pe_int)
    (pss_cons (ps_while PassesOwn.never (pt_cmpR (op_neD hr.units) (pv 3) (pv 1) (nomark _))
      (pss_cons (ps_set (i := 3) sc_back_in.nd rfl (Or.inl rfl) (pe_ix ix_tup (pe_call (ok_called_in T) (hr.mono (by decide)) rfl T.m_called_in T.F_called_in.kp T.b_called_in .nil pass0 (pa_cons (pv 0) (pa_cons (pv 3) (pa_cons (pv 2) pa_nil)))) pe_int (fun _ _ => rfl)))
      (pss_one (ps_aug (i := 4) sc_back_in.nd rfl (Or.inl rfl) pe_int ip_add))))
    (pss_one (ps_ret (pv 4)))))), ?_⟩
    rw [show start ["near", "standing", "order", "row", "told"] [.ref np, .ref rp, .ref cp] = [some (.ref np), some (.ref rp), some (.ref cp), none, none] from rfl]
    walk_at "go"
    refine ⟨np, rp, cp, n, ts, row, cs, rfl, hN, ok.net, hp, hc, ok.two, ok.hi, ok.row, ok.cs, fun q1 r1 H1 _ hr1 k1 e1 e2 => ?_⟩
    walk_at "go"
    have T0 := hT.pos
    refine g_whl (fun σ H' => ∃ (k : Nat) (r : Addr), σ = [some (.ref np), some (.ref rp), some (.ref cp), some (.ref r), some (.int k)] ∧ 1 ≤ k ∧ k ≤ per ∧ H' r = some (.lst ((it (rnd ts n cs) k row).map V.int)) ∧ Kp [] H H')
      (fun σ H' => match σ with | [_, _, _, _, some (.int k)] => per - k.toNat | _ => 0) ⟨1, r1, rfl, Nat.le_refl _, T0, e2, k1⟩ ?_
    clear hr1 k1 e1 e2
    rintro σ' H' ⟨k, r, rfl, h1, h2, hr', hK⟩
    walk_at "go"
    refine g_neI2 hr' (hK.lst nin0 hp) ?_
    walk_at "go"
    refine g_kN (fun e => ?_) (fun e => ?_)
    · have kT : k < per := by
        rcases Nat.lt_or_ge k per with h | h
        · exact h
        · obtain rfl : k = per := by omega
          exact absurd hT.back e
      walk_at "go"
      refine ⟨np, r, cp, n, ts, _, cs, rfl, hN.kp hK, ok.net, hr', hK.lst nin0 hc, ok.two, ok.hi, it_stand ok.cs ok.row k, ok.cs, fun q1 r2 H2 _ _ k2 e1 e2 => ?_⟩
      walk_at "go"
      refine ⟨⟨k + 1, r2, rfl, by omega, by omega, ?_, hK.trans k2⟩, ?_⟩
      · rw [it_succ]; exact e2
      · show per - ((k : Int) + 1).toNat < per - (k : Int).toNat
        omega
    · have kT : k = per := by
        by_cases z : k = per
        · exact z
        · exact absurd e (hT.least k (by omega) (by omega))
      subst kT
      walk_at "go"
      exact q H' hK
theorem ok_called (T : Txt K mg base) : FnOk P w K mg base CX0 6 T.a_called T.fd_called ["seats", "ties", "standing", "calls"] (spCalled T.tbs) := by
  refine fnK_of0 T.F_called sc_called (fun vs H Q E h => ?_) (fun cdv A outer s H vs Q E hcd hr h => ?_)
  · obtain ⟨n, ts, tv, rp, cp, row, cs, rfl, _⟩ := h
    rfl
  · obtain ⟨n, ts, tv, rp, cp, row, cs, rfl, hNt, hp, hc, ok, hT, q⟩ := h
    refine ⟨_, (pss_cons (ps_expr (pe_call (ok_check_net T) (hr.mono (by decide)) rfl T.m_check_net T.F_check_net.kp T.b_check_net .nil pass0 (pa_cons (pv 0) (pa_cons (pv 1) pa_nil))))
    (pss_cons (ps_expr (pe_call (ok_check_standing T) (hr.mono (by decide)) rfl T.m_check_standing T.F_check_standing.kp T.b_check_standing .nil pass0 (pa_cons (pv 0) (pa_cons (pv 2) pa_nil))))
    (pss_cons (ps_expr (pe_call (ok_check_calls T) (hr.mono (by decide)) rfl T.m_check_calls T.F_check_calls.kp T.b_check_calls .nil pass0 (pa_cons (pv 0) (pa_cons (pv 3) pa_nil))))
    (pss_one (ps_ret (pe_ix ix_tup (pe_call (ok_called_in T) (hr.mono (by decide)) rfl T.m_called_in T.F_called_in.kp T.b_called_in .nil pass0 (pa_cons (pe_call (ok_near_in T) (hr.mono (by decide)) rfl T.m_near_in T.F_near_in.kp T.b_near_in .nil pass0 (pa_cons (pv 0) (pa_cons (pv 1) pa_nil))) (pa_cons (pv 2) (pa_cons (pv 3) pa_nil)))) pe_int (fun _ _ => rfl))))))), ?_⟩
    rw [show start ["seats", "ties", "standing", "calls"] [.int n, tv, .ref rp, .ref cp] = [some (.int n), some (tv), some (.ref rp), some (.ref cp)] from rfl]
    walk_at "go"
    refine ⟨n, ts, tv, rfl, ok.lo, ok.hi, ok.net, hNt, hT, fun H1 k1 => ?_⟩
    walk_at "go"
    refine ⟨rp, row, n, rfl, by walk_at "look", ok.hi, ok.row, fun H2 k2 => ?_⟩
    walk_at "go"
    have k2 := k1.trans k2
    refine ⟨cp, cs, n, rfl, k2.lst nin0 hc, ok.cs, fun H3 k3 => ?_⟩
    walk_at "go"
    have k3 := k2.trans k3
    refine ⟨n, ts, tv, rfl, ok.hi, ok.net, hNt.kp k3, fun np ds H4 k4 hn => ?_⟩
    walk_at "go"
    have k4 := k3.trans k4
    refine ⟨np, rp, cp, n, ts, row, cs, rfl, hn.is, ok.net, k4.lst nin0 hp, k4.lst nin0 hc, ok.two, ok.hi, ok.row, ok.cs, fun q1 r1 H5 _ hr5 k5 e1 e2 => ?_⟩
    walk_at "go"
    exact q r1 H5 (k4.free hr5) (k4.trans k5) e2
theorem ok_after_rounds (T : Txt K mg base) : FnOk P w K mg base CX0 6 T.a_after_rounds T.fd_after_rounds ["seats", "ties", "standing", "order", "many"] (spAfter T.tbs) := by
  refine fnDK_of0 T.F_after_rounds sc_after_rounds (fun vs H Q E h => ?_) (fun cdv A outer s H vs Q E hcd hr h => ?_)
  · obtain ⟨n, ts, tv, rp, cp, row, cs, m, rfl, _⟩ := h
    rfl
  · obtain ⟨n, ts, tv, rp, cp, row, cs, m, rfl, hNt, hp, hc, ok, hcs, hT, hper, q⟩ := h
    refine ⟨_, (pss_cons (ps_expr (pe_call (ok_check_net T) (hr.mono (by decide)) rfl T.m_check_net T.F_check_net.kp T.b_check_net .nil pass0 (pa_cons (pv 0) (pa_cons (pv 1) pa_nil))))
    (pss_cons (ps_expr (pe_call (ok_check_standing T) (hr.mono (by decide)) rfl T.m_check_standing T.F_check_standing.kp T.b_check_standing .nil pass0 (pa_cons (pv 0) (pa_cons (pv 2) pa_nil))))
    (pss_cons (ps_expr (pe_call (ok_check_order_of T) (hr.mono (by decide)) rfl T.m_check_order_of T.F_check_order_of.kp T.b_check_order_of .nil pass0 (pa_cons (pv 3) (pa_cons (pv 0) pa_nil))))
    (pss_cons (ps_if (pt_not (pt_val (pe_call (ok_is_whole T) (hr.mono (by decide)) rfl T.m_is_whole T.F_is_whole.kp T.b_is_whole .nil pass0 (pa_cons (pv 4) pa_nil))))
      (pss_one ps_never)
      pss_nil)
    (pss_cons (ps_set (i := 5) sc_after_rounds.nd rfl (Or.inl rfl) (pe_call (ok_near_in T) (hr.mono (by decide)) rfl T.m_near_in T.F_near_in.kp T.b_near_in .nil pass0 (pa_cons (pv 0) (pa_cons (pv 1) pa_nil))))
    (Evl.pss_cut (ps_if (pt_cmpR op_gt (pe_callB call_abs (by rfl) T.n_abs (by decide +kernel) (pa_cons (pv 4) pa_nil)) (pe_glob (v := .int 1000) rfl T.v_MOST_STEPS ⟨_, rfl⟩) (nomark _))
      (pss_one (ps_aug (i := 4) sc_after_rounds.nd rfl (Or.inl rfl) (pe_call (ok_back_in T) (hr.mono (by decide)) rfl T.m_back_in T.F_back_in.kp T.b_back_in .nil pass0 (pa_cons (pv 5) (pa_cons (pv 2) (pa_cons (pv 3) pa_nil)))) ip_mod))
      pss_nil)
    (pss_cons (ps_set (i := 6) sc_after_rounds.nd rfl (Or.inl rfl) (pe_callTy cr_list (by rfl) T.n_list (by decide +kernel) (pa_cons (pv 2) pa_nil)))
    (pss_cons (ps_for PassesOwn.never rfl (pi_range1 (by rfl) T.n_range (pa_cons (pe_callB call_abs (by rfl) T.n_abs (by decide +kernel) (pa_cons (pv 4) pa_nil)) pa_nil)) (pg_name (i := 7) sc_after_rounds.nd rfl (Or.inl rfl))
      (pss_one (ps_set (i := 6) sc_after_rounds.nd rfl (Or.inl rfl) (pe_ix ix_tup (pe_call (ok_called_in T) (hr.mono (by decide)) rfl T.m_called_in T.F_called_in.kp T.b_called_in .nil pass0 (pa_cons (pv 5) (pa_cons (pv 6) (pa_cons (pe_ifExp (pt_cmpR op_gt (pv 4) pe_int (nomark _)) (pv 3) (pe_revL (pv 3))) pa_nil)))) pe_int (fun _ _ => rfl)))))
    (pss_one (ps_ret (pv 6))))))))))), ?_⟩
    rw [show start ["seats", "ties", "standing", "order", "many", "near", "row", "turn"] [.int n, tv, .ref rp, .ref cp, .int m] = [some (.int n), some (tv), some (.ref rp), some (.ref cp), some (.int m), none, none, none] from rfl]
    walk_at "go"
    refine ⟨n, ts, tv, rfl, ok.lo, ok.hi, ok.net, hNt, hT, fun H1 k1 => ?_⟩
    walk_at "go"
    refine ⟨rp, row, n, rfl, by walk_at "look", ok.hi, ok.row, fun H2 k2 => ?_⟩
    walk_at "go"
    have k2 := k1.trans k2
    refine ⟨cp, cs, n, rfl, k2.lst nin0 hc, ok.hi, hcs, fun H3 k3 => ?_⟩
    walk_at "go"
    have k3 := k2.trans k3
    refine ⟨.int m, some m, rfl, .int m, ?_⟩
    walk_at "go"
    refine g_kX rfl ?_
    walk_at "go"
    refine ⟨n, ts, tv, rfl, ok.hi, ok.net, hNt.kp k3, fun np ds H4 k4 hn => ?_⟩
    walk_at "go"
    have k4 := k3.trans k4
    have hnear := hn.is
    clear k3 hn
    refine g_cut (fun σ' H' => ∃ m' : Int, σ' = [some (.int n), some (tv), some (.ref rp), some (.ref cp), some (.int m'), some (.ref np), none, none] ∧ Kp [] H H' ∧ NearIs np n ts H' ∧ -(2 ^ 60) < m' ∧ m' < 2 ^ 60 ∧ after ts n cs m' row = after ts n cs m row) ?_ ?_
    · walk_at "go"
      refine ⟨m, rfl, ?_⟩
      walk_at "go"
      refine g_kD (fun e => ?_) (fun e => ?_)
      · obtain ⟨per, pb, hP⟩ := hper (by split at e <;> omega)
        have per0 := hP.pos
        walk_at "go"
        refine ⟨np, rp, cp, n, ts, row, cs, per, rfl, hnear, k4.lst nin0 hp, k4.lst nin0 hc, ok, hP, fun H5 k5 => ?_⟩
        walk_at "go"
        have b0 := Int.emod_nonneg m (b := per) (by omega)
        have b1 := Int.emod_lt_of_pos m (b := per) (by omega)
        refine ⟨m % per, rfl, k4.trans k5, hnear.kp k5, by omega, by omega, ?_⟩
        unfold after
        rw [rz_mod (fun x => moved_back ts n cs x) hP.pos hP.back, rz_mod (fun x => moved_back ts n cs x) hP.pos hP.back, Int.emod_emod]
      · walk_at "go"
        exact ⟨m, rfl, k4, hnear, by split at e <;> omega, by split at e <;> omega, rfl⟩
    · rintro σ' H' ⟨m', rfl, hK, hN, m1, m2, em⟩
      walk_at "go"
      rename_i rw hrw
      refine ⟨m', rfl, ?_⟩
      have ab : (if m' < 0 then -m' else m') = (m'.natAbs : Int) := by split <;> omega
      rw [ab]
      walk_at "go"
      rw [show ((m'.natAbs : Int)).toNat = m'.natAbs by omega]
      have stand : ∀ k, Stand n (it (if 0 < m' then rnd ts n cs else rnd ts n cs.reverse) k row) := fun k => by
        split
        · exact it_stand ok.cs ok.row k
        · exact it_stand (fun c hc => ok.cs c (List.mem_reverse.mp hc)) ok.row k
      have fin : it (if 0 < m' then rnd ts n cs else rnd ts n cs.reverse) m'.natAbs row = after ts n cs m' row := by
        unfold after rz
        by_cases z : 0 < m'
        · rw [if_pos z, if_pos (by omega), show m'.toNat = m'.natAbs by omega]
        · rw [if_neg z]
          by_cases z2 : 0 ≤ m'
          · obtain rfl : m' = 0 := by omega
            rfl
          · rw [if_neg z2, show (-m').toNat = m'.natAbs by omega]
      refine g_forR (fun i σ' H2 => ∃ (r : Addr) (x7 : Option V), σ' = [some (.int n), some tv, some (.ref rp), some (.ref cp), some (.int m'), some (.ref np), some (.ref r), x7] ∧ H r = none ∧ H2 r = some (.lst ((it (if 0 < m' then rnd ts n cs else rnd ts n cs.reverse) i row).map V.int)) ∧ Kp [] H H2 ∧ NearIs np n ts H2)
        ⟨rw, _, rfl, hK.free hrw, upd_same, hK.put (hK.free hrw), hN.kp ((Kp.refl _ _).put hrw)⟩ ?_ ?_
      · clear hN hK hrw
        rintro i σ' H2 hi ⟨r, x7, rfl, hr0, hr2, hK, hN⟩
        walk_at "go"
        refine g_kD (fun e => ?_) (fun e => ?_)
        · walk_at "go"
          refine ⟨np, r, cp, n, ts, _, cs, rfl, hN, ok.net, hr2, hK.lst nin0 hc, ok.two, ok.hi, stand i, ok.cs, fun q1 r1 H5 _ hr5 k5 e1 e2 => ?_⟩
          walk_at "go"
          refine ⟨r1, _, rfl, hK.free hr5, ?_, hK.trans k5, hN.kp k5⟩
          rw [it_succ, if_pos e]
          rw [if_pos e] at e2
          exact e2
        · walk_at "go"
          rename_i rv hrv
          have k3 : Kp [] H2 _ := (Kp.refl [] H2).put (o := .lst (cs.map V.int).reverse) hrv
          refine ⟨np, r, rv, n, ts, _, cs.reverse, rfl, hN.kp k3, ok.net, k3.lst nin0 hr2, ?_, ok.two, ok.hi, stand i, fun c hc => ok.cs c (List.mem_reverse.mp hc), fun q1 r1 H5 _ hr5 k5 e1 e2 => ?_⟩
          · rw [List.map_reverse]; exact upd_same
          walk_at "go"
          refine ⟨r1, _, rfl, (hK.trans k3).free hr5, ?_, (hK.trans k3).trans k5, (hN.kp k3).kp k5⟩
          rw [it_succ, if_neg e]
          rw [if_neg e] at e2
          exact e2
      · rintro σ' H2 ⟨r, x7, rfl, hr0, hr2, hK2, _⟩
        walk_at "go"
        refine q r H2 hr0 hK2 ?_
        rw [hr2, fin, em]
end
end Ap


/-! P4: rounds made one behind the other; there and back. -/
namespace Ap
open PySem L2
theorem moved_rep (ts : List Tie) (n : Int) (cs : List Int) : ∀ (k : Nat) (row : List Int), moved ts n row (List.replicate k cs).flatten = it (rnd ts n cs) k row
  | 0, row => rfl
  | k + 1, row => by
    rw [List.replicate_succ, List.flatten_cons, moved_app, moved_rep ts n cs k]
    rfl
theorem after_pos (ts : List Tie) (n : Int) (cs row : List Int) {m : Int} (h : 0 < m) : moved ts n row (List.replicate m.toNat cs).flatten = after ts n cs m row := by
  rw [moved_rep]
  unfold after rz
  rw [if_pos (by omega)]
theorem after_neg (ts : List Tie) (n : Int) (cs row : List Int) {m : Int} (h : ¬ 0 < m) : moved ts n row (List.replicate (0 - m).toNat cs.reverse).flatten = after ts n cs m row := by
  rw [moved_rep]
  unfold after rz
  split
  · rw [show m.toNat = 0 by omega, show (0 - m).toNat = 0 by omega]; rfl
  · rw [show 0 - m = -m by omega]
theorem after_back (ts : List Tie) (n : Int) (cs row : List Int) (m : Int) : after ts n cs (0 - m) (after ts n cs m row) = row := by
  unfold after rz
  by_cases h : 0 ≤ m
  · rw [if_pos h]
    by_cases h0 : m = 0
    · subst h0; rfl
    · rw [if_neg (by omega), show -(0 - m) = m by omega]
      exact it_inv (fun x => moved_back ts n cs x) _ _
  · rw [if_neg h, if_pos (by omega), show 0 - m = -m by omega]
    exact it_inv (fun x => moved_back' ts n cs x) _ _
theorem after_stand {ts : List Tie} {n : Nat} {cs row : List Int} (hc : ∀ c ∈ cs, c ∈ up n) (h : Stand n row) (m : Int) : Stand n (after ts n cs m row) := by
  unfold after rz
  split
  · exact it_stand hc h _
  · exact it_stand (fun c hx => hc c (List.mem_reverse.mp hx)) h _
theorem after_one (ts : List Tie) (n : Int) (cs row : List Int) : after ts n cs 1 row = moved ts n row cs := rfl
theorem after_per {ts : List Tie} {n : Int} {cs row : List Int} {T : Nat} (h : Per (rnd ts n cs) row T) (m : Int) : after ts n cs m row = it (rnd ts n cs) (m % T).toNat row :=
  rz_mod (fun x => moved_back ts n cs x) h.pos h.back m
theorem Per.shift {α : Type} {f : α → α} {x : α} {T : Nat} (h : Per f x T) (hi : ∀ a b, f a = f b → a = b) (j : Nat) : Per f (it f j x) T := by
  have inj : ∀ (k : Nat) (u v : α), it f k u = it f k v → u = v := fun k => by
    induction k with
    | zero => exact fun u v h => h
    | succ k ih => exact fun u v h => hi _ _ (ih _ _ h)
  refine ⟨h.pos, ?_, fun k k0 kT e => h.least k k0 kT ?_⟩
  · rw [← it_add, Nat.add_comm, it_add, h.back]
  · rw [← it_add, Nat.add_comm, it_add] at e
    exact inj j _ _ e
theorem rnd_inj (ts : List Tie) (n : Int) (cs : List Int) (a b : List Int) (h : rnd ts n cs a = rnd ts n cs b) : a = b := by
  rw [← moved_back ts n cs a, ← moved_back ts n cs b]
  show moved ts n (rnd ts n cs a) _ = moved ts n (rnd ts n cs b) _
  rw [h]
theorem after_last {ts : List Tie} {n : Int} {cs row : List Int} {T : Nat} (h : Per (rnd ts n cs) row T) (k : Nat) : after ts n cs (1 + (T : Int) * k) (it (rnd ts n cs) (T - 1) row) = row := by
  have p := h.shift (rnd_inj ts n cs) (T - 1)
  have e : (1 + (T : Int) * k).toNat = T * k + 1 := by
    have : (T : Int) * k = ((T * k : Nat) : Int) := by rw [Int.natCast_mul]
    omega
  have T0 := h.pos
  have nn : (0 : Int) ≤ 1 + (T : Int) * k := by
    have : (T : Int) * k = ((T * k : Nat) : Int) := by rw [Int.natCast_mul]
    omega
  unfold after rz
  rw [if_pos nn, e, it_add, it_mul p.back]
  show it (rnd ts n cs) 1 (it (rnd ts n cs) (T - 1) row) = row
  rw [← it_add, show T - 1 + 1 = T by omega]
  exact h.back
theorem flat_map (k : Nat) (cs : List Int) : (List.replicate k (cs.map V.int)).flatten = ((List.replicate k cs).flatten).map V.int := by
  rw [List.map_flatten, List.map_replicate]
end Ap


namespace Ap
open PySem L2
/-- a list, drawn into another order, and the drawer behind it -/
def shuf {α : Type} : Nat → Dst → List α → List α × Dst
  | 0, d, _ => ([], d)
  | n + 1, d, xs => match xs[(nxV d % xs.length).toNat]? with
    | some x => let r := shuf n (nxS d) (xs.eraseIdx (nxV d % xs.length).toNat); (x :: r.1, r.2)
    | none => ([], d)
theorem shuf_succ {α : Type} (n : Nat) (d : Dst) (xs : List α) : shuf (n + 1) d xs = match xs[(nxV d % xs.length).toNat]? with
    | some x => (x :: (shuf n (nxS d) (xs.eraseIdx (nxV d % xs.length).toNat)).1, (shuf n (nxS d) (xs.eraseIdx (nxV d % xs.length).toNat)).2)
    | none => ([], d) := rfl
theorem erase_perm {α : Type} : ∀ {l : List α} {z : Nat} (h : z < l.length), (l[z] :: l.eraseIdx z).Perm l
  | _ :: _, 0, _ => List.Perm.refl _
  | a :: r, z + 1, h => (List.Perm.swap a _ _).trans ((erase_perm (l := r) (z := z) (by simpa using h)).cons a)
theorem shuf_at {n : Int} {d : Dst} (h : 0 < n) : (nxV d % n).toNat < n.toNat := by
  have := Int.emod_nonneg (nxV d) (b := n) (by omega)
  have := Int.emod_lt_of_pos (nxV d) h
  omega
theorem shuf_perm {α : Type} : ∀ (n : Nat) (d : Dst) (xs : List α), xs.length = n → (shuf n d xs).1.Perm xs
  | 0, d, xs, h => by
    obtain rfl := List.length_eq_zero_iff.mp h
    exact .refl _
  | n + 1, d, xs, h => by
    have lt : (nxV d % xs.length).toNat < xs.length := by
      have := shuf_at (n := xs.length) (d := d) (by omega)
      simpa using this
    unfold shuf
    rw [List.getElem?_eq_getElem lt]
    exact ((shuf_perm n (nxS d) (xs.eraseIdx (nxV d % xs.length).toNat) (by rw [List.length_eraseIdx_of_lt lt]; omega)).cons _).trans (erase_perm lt)
theorem shuf_ok {α : Type} : ∀ (n : Nat) (d : Dst) (m : Nat) (xs : List α), Dok d m → Dok (shuf n d xs).2 (m + n)
  | 0, d, m, xs, h => h
  | n + 1, d, m, xs, h => by
    unfold shuf
    split
    · have := shuf_ok n (nxS d) (m + 1) (xs.eraseIdx (nxV d % xs.length).toNat) h.next
      exact this.mono (by omega)
    · exact h.mono (by omega)
theorem eraseIdx_map' {α β : Type} (f : α → β) : ∀ (l : List α) (i : Nat), (l.map f).eraseIdx i = (l.eraseIdx i).map f
  | [], _ => rfl
  | _ :: _, 0 => rfl
  | a :: r, i + 1 => by
    show f a :: (r.map f).eraseIdx i = f a :: (r.eraseIdx i).map f
    rw [eraseIdx_map' f r i]
theorem shuf_map {α β : Type} (f : α → β) : ∀ (n : Nat) (d : Dst) (xs : List α), shuf n d (xs.map f) = ((shuf n d xs).1.map f, (shuf n d xs).2)
  | 0, d, xs => rfl
  | n + 1, d, xs => by
    unfold shuf
    rw [List.length_map, List.getElem?_map, eraseIdx_map']
    cases xs[(nxV d % xs.length).toNat]? with
    | none => rfl
    | some x =>
      show _ = (f x :: _, _)
      simp only [Option.map_some, shuf_map f n]
/-- exact -/
def spMixX : Sp := fun vs H Q _ => ∃ (a p : Addr) (m : Nat) (d : Dst) (xs : List V), vs = [.ref a, .ref p] ∧ DrAt a d H ∧ Dok d m ∧ H p = some (.lst xs) ∧ p ≠ a ∧ m + xs.length < 2 ^ 40 ∧ xs.length ≤ 100000 ∧
  ∀ (q : Addr) (H' : Hp), H q = none → Kp [a] H H' → DrAt a (shuf xs.length d xs).2 H' → H' q = some (.lst (shuf xs.length d xs).1) → Q (.ref q) H'
/-- any list, drawn into another order -/
def spMixed : Sp := fun vs H Q _ => ∃ (a p : Addr) (m : Nat) (xs : List V), vs = [.ref a, .ref p] ∧ Draws a m H ∧ H p = some (.lst xs) ∧ p ≠ a ∧ m + xs.length < 2 ^ 40 ∧ xs.length ≤ 100000 ∧
  ∀ (q : Addr) (ys : List V) (H' : Hp), H q = none → ys.Perm xs → Kp [a] H H' → Draws a (m + xs.length) H' → H' q = some (.lst ys) → Q (.ref q) H'
section
variable {P : Program} {w : World} {K : PySem.W.Frag} {mg : Str → Option Value} {base : Heap}
theorem ok_mixX (T : Txt K mg base) : FnG P w K mg base CX0 2 T.a_Lmixed T.fd_Lmixed ["_law_draws_here", "_law_some"] spMixX := by
  refine fnG_of0 T.F_Lmixed sc_Lmixed (fun vs H Q E h => ?_) (fun cdv A outer s H vs Q E hcd hr gd h => ?_)
  · obtain ⟨a, p, m, d, xs, rfl, _⟩ := h
    rfl
  · obtain ⟨a, p, m, d, xs, rfl, hD, hk, hp, hpa, hm, hx, q⟩ := h
    refine ⟨_, (pss_cons (ps_set (i := 2) sc_Lmixed.nd rfl (Or.inl rfl) (pe_callTy cr_list (by rfl) T.n_list (by decide +kernel) (pa_cons (pv 1) pa_nil)))
    (pss_cons (ps_set (i := 3) sc_Lmixed.nd rfl (Or.inl rfl) (pe_lst pa_nil))
    (pss_cons (ps_while PassesOwn.never (pt_cmpR (op_neE hr.units0) (pv 2) (pe_lst pa_nil) (nomark _))
      (pss_one (ps_expr (pe_bm PySem.F.plainAttrs_list PySem.F.slot_list_append PySem.F.type_list_append mt_append (pv 3) (pa_cons (pe_bm PySem.F.plainAttrs_list PySem.F.slot_list_pop PySem.F.type_list_pop mt_popAt (pv 2) (pa_cons (pe_op op_mod (pe_callTy cr_int (by rfl) T.n_int (by decide +kernel) (pa_cons (pe_callG (ok_nextX T) (hr.mono (by decide)) gd rfl T.m_Lnext T.F_Lnext.kp T.b_Lnext .nil pass0 (pa_cons (pv 0) pa_nil)) pa_nil)) (pe_callB cr_len (by rfl) T.n_len (by decide +kernel) (pa_cons (pv 2) pa_nil))) pa_nil)) pa_nil)))))
    (pss_one (ps_ret (pv 3)))))), ?_⟩
    rw [show start ["_law_draws_here", "_law_some", "_law_left", "_law_told"] [V.ref a, V.ref p] = [some (V.ref a), some (V.ref p), none, none] from rfl]
    walk_at "go"
    rename_i l hl t ht
    have ha : H a = some (.lst [.int d.1, .int d.2.1, .bl d.2.2]) := hD
    have la : l ≠ a := Ne.symm (ne_of_none ha hl)
    have tl : t ≠ l := fun z => by rw [z, upd_same] at ht; cases ht
    have ht0 : H t = none := by rw [upd_ne tl] at ht; exact ht
    have ta : t ≠ a := Ne.symm (ne_of_none ha ht0)
    refine g_whl (fun σ H' => σ = [some (.ref a), some (.ref p), some (.ref l), some (.ref t)] ∧ ∃ (d' : Dst) (rs ys : List V), H' l = some (.lst rs) ∧ H' t = some (.lst ys) ∧ ys.length + rs.length = xs.length ∧ ys ++ (shuf rs.length d' rs).1 = (shuf xs.length d xs).1 ∧ (shuf rs.length d' rs).2 = (shuf xs.length d xs).2 ∧ Kp [a] H H' ∧ DrAt a d' H' ∧ Dok d' (m + ys.length))
      (fun σ H' => match H' l with | some (.lst rs) => rs.length | _ => 0) ⟨rfl, d, xs, [], by walk_at "look", by walk_at "look", by simp, rfl, rfl, ((Kp.refl _ _).put hl).put ht0, by unfold DrAt; walk_at "look", hk⟩ ?_
    rintro σ' H' ⟨rfl, d', rs, ys, hl', ht', hlen, hS, hE, hK, hD', hk'⟩
    walk_at "go"
    rename_i n hn
    have nl : l ≠ n := ne_of_none hl' hn
    have nt : t ≠ n := ne_of_none ht' hn
    have h1 : H' a = some (.lst [.int d'.1, .int d'.2.1, .bl d'.2.2]) := hD'
    have na : a ≠ n := ne_of_none h1 hn
    refine g_kB (fun e => ?_) (fun e => ?_)
    · walk_at "go"
      have rs0 : 0 < rs.length := by
        cases rs with
        | nil => simp at e
        | cons _ _ => simp
      refine ⟨a, m + ys.length, d', rfl, by unfold DrAt; walk_at "look", hk', by omega, fun H2 k1 d1 => ?_⟩
      walk_at "go"
      have b0 : 0 ≤ nxV d' % (rs.length : Int) := Int.emod_nonneg _ (by omega)
      have b1 : nxV d' % (rs.length : Int) < (rs.length : Int) := Int.emod_lt_of_pos _ (by omega)
      obtain ⟨z, ez⟩ : ∃ z : Nat, nxV d' % (rs.length : Int) = (z : Int) := ⟨_, (Int.toNat_of_nonneg b0).symm⟩
      have zl : z < rs.length := by omega
      have hl2 : H2 l = some (.lst rs) := by walk_at "look"
      have ht2 : H2 t = some (.lst ys) := by walk_at "look"
      have sh : shuf rs.length d' rs = (rs[z] :: (shuf (rs.length - 1) (nxS d') (rs.eraseIdx z)).1, (shuf (rs.length - 1) (nxS d') (rs.eraseIdx z)).2) := by
        obtain ⟨j, hj⟩ : ∃ j, rs.length = j + 1 := ⟨rs.length - 1, by omega⟩
        have ez' : nxV d' % ((j + 1 : Nat) : Int) = (z : Int) := by rw [← hj]; exact ez
        rw [hj, shuf_succ, hj, ez', Int.toNat_natCast, List.getElem?_eq_getElem zl, Nat.add_sub_cancel]
      rw [ez]
      refine g_popAt (n := z) (y := rs[z]) hl2 rfl (List.getElem?_eq_getElem zl) (by omega) ?_
      walk_at "go"
      refine g_append (xs := ys) (by walk_at "look") (triv_szl (by omega)) ?_
      walk_at "go"
      have le : (rs.eraseIdx z).length = rs.length - 1 := List.length_eraseIdx_of_lt zl
      refine ⟨⟨rfl, nxS d', rs.eraseIdx z, ys ++ [rs[z]], by walk_at "look", by walk_at "look", ?_, ?_, ?_, ?_, ?_, ?_⟩, ?_⟩
      · rw [le, List.length_append, List.length_singleton]; omega
      · rw [le, List.append_assoc, ← hS, sh]; rfl
      · rw [le, ← hE, sh]
      · have k2 : Kp [a] H H2 := (hK.put (hK.free hn)).trans k1
        exact (k2.put hl).put ht0
      · unfold DrAt at d1 ⊢
        walk_at "look"
      · rw [List.length_append, List.length_singleton, ← Nat.add_assoc]
        exact hk'.next
      · have e1 : (upd (upd H2 l (HO.lst (rs.eraseIdx z))) t (HO.lst (ys ++ [rs[z]]))) l = some (.lst (rs.eraseIdx z)) := by walk_at "look"
        rw [e1, hl']
        show (rs.eraseIdx z).length < rs.length
        omega
    · walk_at "go"
      have er : rs = [] := by
        cases rs with
        | nil => rfl
        | cons _ _ => simp at e
      subst er
      have hS : ys ++ [] = _ := hS
      have hE : d' = _ := hE
      rw [List.append_nil] at hS
      refine q t _ ht0 (hK.put (hK.free hn)) ?_ ?_
      · unfold DrAt; rw [← hE]; walk_at "look"
      · rw [← hS]; walk_at "look"
theorem ok_Lmixed (T : Txt K mg base) : FnG P w K mg base CX0 2 T.a_Lmixed T.fd_Lmixed ["_law_draws_here", "_law_some"] spMixed :=
  (ok_mixX T).imp fun vs H Q E h => by
    obtain ⟨a, p, m, xs, rfl, ⟨d, hd, hk⟩, hp, hpa, hm, hx, q⟩ := h
    exact ⟨a, p, m, d, xs, rfl, hd, hk, hp, hpa, hm, hx, fun z H' hz k e e2 => q z _ H' hz (shuf_perm _ d xs rfl) k ⟨_, e, shuf_ok _ _ _ _ hk⟩ e2⟩
end
end Ap


namespace Ap
open PySem L2 PySem.Spec PyProof.Rows
def spDraws : Sp := fun vs H Q _ => ∃ c : Int, vs = [.int c] ∧ ∀ p d H', H p = none → Kp [] H H' → DrAt p d H' → Dok d 0 → (c = 0 → d = (0, 0, false)) → Q (.ref p) H'
section
variable {P : Program} {w : World} {K : PySem.W.Frag} {mg : Str → Option Value} {base : Heap}
theorem ok_Ldraws (T : Txt K mg base) : FnG P w K mg base CX0 1 T.a_Ldraws T.fd_Ldraws ["_law_cell"] spDraws := by
  refine fnG_of0 T.F_Ldraws sc_Ldraws (fun vs H Q E h => ?_) (fun cdv A outer s H vs Q E hcd hr gd h => ?_)
  · obtain ⟨c, rfl, _⟩ := h
    rfl
  · obtain ⟨c, rfl, q⟩ := h
    refine ⟨_, (pss_one (ps_ret (pe_lst (pa_cons (pe_op op_mod (pe_callTy cr_int (by rfl) T.n_int (by decide +kernel) (pa_cons (pv 0) pa_nil)) (pe_op op_powG (pe_op op_powG (pe_op op_powG pe_int pe_int) pe_int) pe_int)) (pa_cons pe_int (pa_cons (pe_cmpR op_ge (pv 0) (pe_op op_powG pe_int pe_int) (nomark _)) pa_nil)))))), ?_⟩
    rw [show start ["_law_cell"] [.int c] = [some (.int c)] from rfl]
    walk_at "go"
    rename_i p hp
    refine q p (_, _, _) _ hp ((Kp.refl _ _).put hp) upd_same ⟨Int.emod_nonneg _ (by decide +kernel), Int.le_refl _, Int.le_refl _⟩ fun e => ?_
    subst e
    rw [Int.zero_emod]
    congr 2
end
end Ap


namespace Ap
open PySem L2
/-- what stands in a net's loop: the ties so far -/
structure NetHere (H : Hp) (a lp tp : Addr) (ls : List Int) (m c : Nat) (ts : List Tie) (H' : Hp) : Prop where
  few : ts.length ≤ c
  line : H' lp = some (.lst (ls.map V.int))
  ties : ∃ vs, H' tp = some (.lst vs) ∧ DaAll (fun b => H b = none ∧ b ≠ tp ∧ b ≠ lp) H' vs (ts.map tieD)
  kp : Kp [a] H H'
  dr : Draws a m H'
theorem NetHere.mono {H : Hp} {a lp tp : Addr} {ls : List Int} {m m' c c' : Nat} {ts : List Tie} {H' : Hp} (h : NetHere H a lp tp ls m c ts H') (l : m ≤ m') (l' : c ≤ c') : NetHere H a lp tp ls m' c' ts H' := ⟨Nat.le_trans h.few l', h.line, h.ties, h.kp, h.dr.mono l⟩
theorem NetHere.next {H : Hp} {a lp tp : Addr} {ls : List Int} {m c : Nat} {ts : List Tie} {H1 H2 : Hp} (h : NetHere H a lp tp ls m c ts H1) (ha : H a ≠ none) (hl : lp ≠ a) (ht : tp ≠ a) (k : Kp [a] H1 H2) (d : Draws a (m + 1) H2) : NetHere H a lp tp ls (m + 1) c ts H2 := by
  obtain ⟨vs, e, D⟩ := h.ties
  exact ⟨h.few, k.lst (nin1 hl) h.line, ⟨vs, k.lst (nin1 ht) e, D.keep k (fun b hb => nin1 fun z => ha (z ▸ hb.1)) fun _ hb => hb⟩, h.kp.trans k, d⟩
theorem NetHere.junk {H : Hp} {a lp tp q : Addr} {ls : List Int} {m c : Nat} {ts : List Tie} {H1 : Hp} {o : HO} (h : NetHere H a lp tp ls m c ts H1) (hq : H1 q = none) : NetHere H a lp tp ls m c ts (upd H1 q o) := by
  obtain ⟨vs, e, D⟩ := h.ties
  exact ⟨h.few, by rw [upd_ne (ne_of_none h.line hq)]; exact h.line, ⟨vs, by rw [upd_ne (ne_of_none e hq)]; exact e, D.keep (Kp.new (S := []) hq) (fun _ _ => nin0) fun _ hb => hb⟩, h.kp.put (h.kp.free hq), h.dr.new hq⟩
/-- one more tie, laid at q -/
theorem NetHere.add {H : Hp} {a lp tp q : Addr} {ls : List Int} {m c : Nat} {ts : List Tie} {H1 : Hp} {vs : List V} {x y : Int} (h : NetHere H a lp tp ls m c ts H1) (ha : H a ≠ none) (htp : H tp = none) (hlt : lp ≠ tp) (hq : H1 q = none) (e : H1 tp = some (.lst vs)) :
    NetHere H a lp tp ls m (c + 1) (ts ++ [(x, y)]) (upd (upd H1 q (.lst [.int x, .int y])) tp (.lst (vs ++ [.ref q]))) := by
  obtain ⟨vs', e', D⟩ := h.ties
  obtain rfl : vs' = vs := by rw [e] at e'; cases e'; rfl
  have qt : q ≠ tp := fun z => by rw [z, e] at hq; cases hq
  have ql : q ≠ lp := fun z => by rw [z, h.line] at hq; cases hq
  obtain ⟨dd, d1, d2⟩ := h.dr
  have qa : a ≠ q := fun z => h.dr.ne (by rw [z]; exact hq)
  have ta : a ≠ tp := fun z => ha (by rw [z]; exact htp)
  have K1 : Kp [tp] H1 (upd (upd H1 q (.lst [.int x, .int y])) tp (.lst (vs' ++ [.ref q]))) := ((Kp.refl _ _).put hq).mut (List.mem_singleton.mpr rfl) e (ntb rfl)
  refine ⟨by rw [List.length_append, List.length_singleton]; exact Nat.succ_le_succ h.few, ?_, ⟨vs' ++ [.ref q], upd_same, ?_⟩, (h.kp.put (h.kp.free hq)).put htp, ⟨dd, ?_, d2⟩⟩
  · rw [upd_ne hlt, upd_ne ql.symm]; exact h.line
  · rw [List.map_append]
    refine (D.keep K1 (fun b hb => nin1 hb.2.1) fun _ hb => hb).append (.cons (.lst ⟨h.kp.free hq, qt, ql⟩ (by rw [upd_ne qt, upd_same]) (.cons (.int x) (.cons (.int y) .nil))) .nil)
  · exact (upd_ne ta).trans ((upd_ne qa).trans d1)
def spNet : Sp := fun vs H Q _ => ∃ (a : Addr) (m : Nat) (most : Int), vs = [.ref a, .int most] ∧ Draws a m H ∧ m + 2000 < 2 ^ 40 ∧ 4 ≤ most ∧ most ≤ 40 ∧
  ∀ (p q : Addr) (n : Nat) (ts : List Tie) (H' : Hp), 3 ≤ n → (n : Int) ≤ most → NetS (up n) ts → H p = none → H' p = some (.tup [.int n, .ref q]) → Da (fun b => H b = none) H' (.ref q) (netD ts) → Kp [a] H H' → Draws a (m + 2000) H' → Q (.ref p) H'
section
variable {P : Program} {w : World} {K : PySem.W.Frag} {mg : Str → Option Value} {base : Heap}
theorem ok_Lnet (T : Txt K mg base) : FnG P w K mg base CX0 3 T.a_Lnet T.fd_Lnet ["_law_draws_here", "_law_most"] spNet := by
  refine fnG_of0 T.F_Lnet sc_Lnet (fun vs H Q E h => ?_) (fun cdv A outer s H vs Q E hcd hr gd h => ?_)
  · obtain ⟨a, m, most, rfl, _⟩ := h
    rfl
  · obtain ⟨a, m, most, rfl, hD, hm, m1, m2, q⟩ := h
    refine ⟨_, (pss_cons (ps_set (i := 2) sc_Lnet.nd rfl (Or.inl rfl) (pe_op op_add pe_int (pe_op op_mod (pe_callTy cr_int (by rfl) T.n_int (by decide +kernel) (pa_cons (pe_callG (ok_Lnext T) (hr.mono (by decide)) gd rfl T.m_Lnext T.F_Lnext.kp T.b_Lnext .nil pass0 (pa_cons (pv 0) pa_nil)) pa_nil)) (pe_op op_sub (pv 1) pe_int))))
    (pss_cons (ps_set (i := 3) sc_Lnet.nd rfl (Or.inl rfl) (pe_op op_mod (pe_callTy cr_int (by rfl) T.n_int (by decide +kernel) (pa_cons (pe_callG (ok_Lnext T) (hr.mono (by decide)) gd rfl T.m_Lnext T.F_Lnext.kp T.b_Lnext .nil pass0 (pa_cons (pv 0) pa_nil)) pa_nil)) pe_int))
    (pss_cons (ps_set (i := 4) sc_Lnet.nd rfl (Or.inl rfl) (pe_callG (ok_Lmixed T) (hr.mono (by decide)) gd rfl T.m_Lmixed T.F_Lmixed.kp T.b_Lmixed .nil pass0 (pa_cons (pv 0) (pa_cons (pe_listRg rfl rfl T.n_list (prg_2 rfl T.n_range pe_int (pe_op op_add (pv 2) pe_int))) pa_nil))))
    (pss_cons (ps_set (i := 5) sc_Lnet.nd rfl (Or.inl rfl) (pe_lst pa_nil))
    (Evl.pss_cut (ps_for PassesOwn.never rfl (pi_range2 (by rfl) T.n_range (pa_cons pe_int (pa_cons (pv 2) pa_nil))) (pg_name (i := 6) sc_Lnet.nd rfl (Or.inl rfl))
      (pss_cons (ps_set (i := 7) sc_Lnet.nd rfl (Or.inl rfl) (pe_callTy cr_int (by rfl) T.n_int (by decide +kernel) (pa_cons (pe_callG (ok_Lnext T) (hr.mono (by decide)) gd rfl T.m_Lnext T.F_Lnext.kp T.b_Lnext .nil pass0 (pa_cons (pv 0) pa_nil)) pa_nil)))
      (Evl.pss_cut (ps_if (pt_cmpR op_in_seq (pv 3) (pe_lst (pa_cons pe_int (pa_cons pe_int pa_nil))) (by rfl))
        (pss_one (ps_expr (pe_bm PySem.F.plainAttrs_list PySem.F.slot_list_append PySem.F.type_list_append mt_append (pv 5) (pa_cons (pe_lst (pa_cons (pe_ix ix_list (pv 4) (pe_op op_sub (pv 6) pe_int) (fun _ _ => rfl)) (pa_cons (pe_ix ix_list (pv 4) (pv 6) (fun _ _ => rfl)) pa_nil))) pa_nil))))
        pss_nil)
      (Evl.pss_cut (ps_if (PW.pt (pw_or (pt_cmpR op_eq (pv 3) pe_int (nomark _)) (pw_or1 (PW.pt (pw_and (pt_cmpR op_eq (pv 3) pe_int (nomark _)) (pw_and1 (pt_cmpR op_gt (pe_op op_mod (pe_op op_fdiv (pv 7) pe_int) pe_int) pe_int (nomark _))))))))
        (pss_one (ps_expr (pe_bm PySem.F.plainAttrs_list PySem.F.slot_list_append PySem.F.type_list_append mt_append (pv 5) (pa_cons (pe_lst (pa_cons (pe_ix ix_list (pv 4) (pv 6) (fun _ _ => rfl)) (pa_cons (pe_ix ix_list (pv 4) (pe_op op_mod (pv 7) (pv 6)) (fun _ _ => rfl)) pa_nil))) pa_nil))))
        pss_nil)
      (pss_one (ps_for PassesOwn.never rfl (pi_list (pe_slice sl_list (pv 4) po_none (po_some (pv 6)))) (pg_name (i := 8) sc_Lnet.nd rfl (Or.inl rfl))
        (pss_one (ps_if (PW.pt (pw_and (pt_cmpR op_eq (pv 3) pe_int (nomark _)) (pw_and1 (pt_cmpR op_eq (pe_op op_mod (pe_callTy cr_int (by rfl) T.n_int (by decide +kernel) (pa_cons (pe_callG (ok_Lnext T) (hr.mono (by decide)) gd rfl T.m_Lnext T.F_Lnext.kp T.b_Lnext .nil pass0 (pa_cons (pv 0) pa_nil)) pa_nil)) pe_int) pe_int (nomark _)))))
          (pss_one (ps_expr (pe_bm PySem.F.plainAttrs_list PySem.F.slot_list_append PySem.F.type_list_append mt_append (pv 5) (pa_cons (pe_lst (pa_cons (pe_ix ix_list (pv 4) (pv 6) (fun _ _ => rfl)) (pa_cons (pv 8) pa_nil))) pa_nil))))
          pss_nil))))))))
    (Evl.pss_cut (ps_if (pt_cmpR op_eq (pv 3) pe_int (nomark _))
      (pss_one (ps_expr (pe_bm PySem.F.plainAttrs_list PySem.F.slot_list_append PySem.F.type_list_append mt_append (pv 5) (pa_cons (pe_lst (pa_cons (pe_ix ix_list (pv 4) pe_int (fun _ _ => rfl)) (pa_cons (pe_ix ix_list (pv 4) (pe_un un_neg pe_int) (fun _ _ => rfl)) pa_nil))) pa_nil))))
      pss_nil)
    (pss_one (ps_ret (pe_tup (pa_cons (pv 2) (pa_cons (pv 5) pa_nil))))))))))), ?_⟩
    rw [show start ["_law_draws_here", "_law_most", "_law_seats", "_law_kind", "_law_line", "_law_ties", "_law_at", "_law_pick", "_law_other"] [V.ref a, V.int most] = [some (.ref a), some (.int most), none, none, none, none, none, none, none] from rfl]
    walk_at "go"
    refine ⟨a, m, rfl, hD, by omega, fun r H1 r0 r1 k1 d1 => ?_⟩
    walk_at "go"
    refine ⟨a, m + 1, rfl, d1, by omega, fun r' H2 r0' r1' k2 d2 => ?_⟩
    walk_at "go"
    have e0 : 0 ≤ r % (most - 2) := Int.emod_nonneg _ (by omega)
    have e1 : r % (most - 2) < most - 2 := Int.emod_lt_of_pos _ (by omega)
    obtain ⟨n, en⟩ : ∃ n : Nat, 3 + r % (most - 2) = (n : Int) := ⟨(3 + r % (most - 2)).toNat, by omega⟩
    rw [en]
    have n3 : 3 ≤ n := by omega
    have nm : (n : Int) ≤ most := by omega
    generalize ek : r' % 6 = kind
    walk_at "go"
    rename_i u hu
    rw [rgV_up]
    have ua : u ≠ a := fun z => d2.ne (by rw [← z]; exact hu)
    refine ⟨a, u, m + 1 + 1, (up n).map V.int, rfl, d2.new hu, upd_same, ua, ?_, ?_, fun lp ys H3 hlp hys k3 d3 h3 => ?_⟩
    · rw [List.length_map, up_length]; omega
    · rw [List.length_map, up_length]; omega
    obtain ⟨ls, rfl, hls⟩ := ints_perm hys
    have kH3 : Kp [a] H H3 := (k1.trans k2).trans ((Kp.new hu).trans k3)
    have hlp0 : H lp = none := (k1.trans k2).free ((Kp.new (S := [a]) hu).free hlp)
    have ll : ls.length = n := by rw [hls.length_eq, up_length]
    have lnd : ls.Nodup := hls.nodup_iff.mpr (up_nodup n)
    walk_at "go"
    rename_i tp htp
    have htp0 : H tp = none := kH3.free htp
    have Ha : H a ≠ none := hD.ne
    have la : lp ≠ a := fun z => Ha (z ▸ hlp0)
    have ta : tp ≠ a := fun z => Ha (z ▸ htp0)
    have lt : lp ≠ tp := ne_of_none h3 htp
    have start0 : NetHere H a lp tp ls (m + 50) 0 [] (upd H3 tp (.lst [])) := by
      refine ⟨Nat.le_refl _, by rw [upd_ne lt]; exact h3, ⟨[], upd_same, .nil⟩, kH3.put htp0, (d3.mono ?_).new htp⟩
      rw [List.length_map, up_length]; omega
    refine g_cut (fun σ' H' => ∃ x6 x7 x8 ts, σ' = [some (.ref a), some (.int most), some (.int n), some (.int kind), some (.ref lp), some (.ref tp), x6, x7, x8] ∧ NetHere H a lp tp ls (m + 50 + 50 * (n - 1)) (50 * (n - 1)) ts H' ∧ NetS (ls.take n) ts ∧ (kind = 4 → ∀ t ∈ ts, ∃ j, ls[j]? = some t.1 ∧ ls[j + 1]? = some t.2)) ?_ ?_
    · walk_at "go"
      refine g_forR (fun i σ' H' => ∃ x6 x7 x8 ts, σ' = [some (.ref a), some (.int most), some (.int n), some (.int kind), some (.ref lp), some (.ref tp), x6, x7, x8] ∧ NetHere H a lp tp ls (m + 50 + 50 * i) (50 * i) ts H' ∧ NetS (ls.take (i + 1)) ts ∧ (kind = 4 → ∀ t ∈ ts, ∃ j, ls[j]? = some t.1 ∧ ls[j + 1]? = some t.2))
        ⟨_, _, _, [], rfl, start0, NetS.nil _, fun _ _ z => nomatch z⟩ ?_ ?_
      · rintro i σ' H' hi ⟨x6, x7, x8, ts, rfl, hN, hS, h4⟩
        have hi2 : i + 1 < n := by omega
        have ey : ls[i]? = some ls[i] := List.getElem?_eq_getElem (by omega)
        have ex : ls[i + 1]? = some ls[i + 1] := List.getElem?_eq_getElem (by omega)
        generalize ls[i] = y at ey
        generalize ls[i + 1] = x at ex
        have xn : x ∉ ls.take (i + 1) := not_mem_take lnd ex
        have ext : ls.take (i + 1 + 1) = ls.take (i + 1) ++ [x] := take_succ' ex
        have atY : atI (ls.map V.int) (1 + (i : Int) - 1) = some (.int y) := atI_of (n := i) (by omega) (by rw [List.getElem?_map, ey]; rfl)
        have atX : atI (ls.map V.int) (1 + (i : Int)) = some (.int x) := atI_of (n := i + 1) (by omega) (by rw [List.getElem?_map, ex]; rfl)
        walk_at "go"
        refine ⟨a, m + 50 + 50 * i, rfl, hN.dr, by omega, fun pk Hn pk0 pk1 kn dn => ?_⟩
        have hN := hN.next Ha la ta kn dn
        clear kn dn
        have hl := hN.line
        obtain ⟨vs, ht, hvs⟩ := hN.ties
        walk_at "go"
        -- if kind in [1, 4]
        refine g_cut (fun σ' H' => ∃ ts, σ' = [some (.ref a), some (.int most), some (.int n), some (.int kind), some (.ref lp), some (.ref tp), some (.int (1 + (i : Int))), some (.int pk), x8] ∧ NetHere H a lp tp ls (m + 50 + 50 * i + 1) (50 * i + 1) ts H' ∧
          ((kind ≠ 1 ∧ kind ≠ 4 ∧ NetS (ls.take (i + 1)) ts) ∨ ((kind = 1 ∨ kind = 4) ∧ NetS (ls.take (i + 1 + 1)) ts ∧ (kind = 4 → ∀ t ∈ ts, ∃ j, ls[j]? = some t.1 ∧ ls[j + 1]? = some t.2)))) ?_ ?_
        · walk_at "go"
          rename_i u hu
          have hN := hN.junk (o := .lst [V.int 1, V.int 4]) hu
          have hl := hN.line
          obtain ⟨vs, ht, hvs⟩ := hN.ties
          refine g_kB (fun e => ?_) (fun e => ?_)
          · have e' : kind = 1 ∨ kind = 4 := by
              rcases (by simpa [inV, eqV] using e : (1 : Int) = kind ∨ (4 : Int) = kind) with z | z <;> omega
            walk_at "go"
            rename_i v hv
            refine g_append (xs := vs) (by walk_at "look") (triv_szl ?_) ?_
            · have := hN.few; rw [hvs.length, List.length_map]; omega
            walk_at "go"
            refine ⟨ts ++ [(y, x)], rfl, hN.add Ha htp0 lt hv ht, .inr ⟨e', ?_, fun e4 t tm => ?_⟩⟩
            · rw [ext]
              exact (hS.new xn (mem_take ey (by omega))).2
            · rcases List.mem_append.mp tm with tm | tm
              · exact h4 e4 t tm
              · obtain rfl := List.mem_singleton.mp tm
                exact ⟨i, ey, ex⟩
          · have e' : kind ≠ 1 ∧ kind ≠ 4 := by
              have z : ¬ (1 : Int) = kind ∧ ¬ (4 : Int) = kind := by simpa [inV, eqV] using e
              omega
            walk_at "go"
            exact ⟨ts, rfl, hN.mono (Nat.le_refl _) (by omega), .inl ⟨e'.1, e'.2, hS⟩⟩
        · rintro σ' H' ⟨ts, rfl, hN, hcase⟩
          have hl := hN.line
          obtain ⟨vs, ht, hvs⟩ := hN.ties
          -- if kind == 2 or kind == 3 and ..
          refine g_cut (fun σ' H' => ∃ ts, σ' = [some (.ref a), some (.int most), some (.int n), some (.int kind), some (.ref lp), some (.ref tp), some (.int (1 + (i : Int))), some (.int pk), x8] ∧ NetHere H a lp tp ls (m + 50 + 50 * i + 1) (50 * i + 2) ts H' ∧
            ((kind = 5 ∧ NetS (ls.take (i + 1)) ts) ∨ (kind ≠ 5 ∧ NetS (ls.take (i + 1 + 1)) ts ∧ (kind = 4 → ∀ t ∈ ts, ∃ j, ls[j]? = some t.1 ∧ ls[j + 1]? = some t.2)))) ?_ ?_
          · have other : kind ≠ 2 → kind ≠ 3 → (kind = 5 ∧ NetS (ls.take (i + 1)) ts) ∨ (kind ≠ 5 ∧ NetS (ls.take (i + 1 + 1)) ts ∧ (kind = 4 → ∀ t ∈ ts, ∃ j, ls[j]? = some t.1 ∧ ls[j + 1]? = some t.2)) := fun k2 k3 => by
              rcases hcase with ⟨h1, h4', hS⟩ | ⟨hk, hS, h4'⟩
              · by_cases h5 : kind = 5
                · exact .inl ⟨h5, hS⟩
                · exact .inr ⟨h5, by rw [ext]; exact hS.mono fun z hz => List.mem_append_left _ hz, fun z => absurd z h4'⟩
              · exact .inr ⟨by omega, hS, h4'⟩
            have put : (kind = 2 ∨ kind = 3) → ∀ t1 t2, t1 = x → t2 ∈ ls.take (i + 1) → (kind = 5 ∧ NetS (ls.take (i + 1)) (ts ++ [(t1, t2)])) ∨ (kind ≠ 5 ∧ NetS (ls.take (i + 1 + 1)) (ts ++ [(t1, t2)]) ∧ (kind = 4 → ∀ t ∈ ts ++ [(t1, t2)], ∃ j, ls[j]? = some t.1 ∧ ls[j + 1]? = some t.2)) := fun hk t1 t2 e1 e2 => by
              subst e1
              rcases hcase with ⟨h1, h4', hS⟩ | ⟨hk', hS, h4'⟩
              · exact .inr ⟨by omega, by rw [ext]; exact (hS.new xn e2).1, fun z => absurd z h4'⟩
              · omega
            have b0 : 0 ≤ pk % (1 + (i : Int)) := Int.emod_nonneg _ (by omega)
            have b1 : pk % (1 + (i : Int)) < 1 + (i : Int) := Int.emod_lt_of_pos _ (by omega)
            obtain ⟨z, ez⟩ : ∃ z : Nat, pk % (1 + (i : Int)) = (z : Int) := ⟨_, (Int.toNat_of_nonneg b0).symm⟩
            have zl : z < ls.length := by omega
            have eu : ls[z]? = some ls[z] := List.getElem?_eq_getElem zl
            generalize ls[z] = uu at eu
            have atZ : atI (ls.map V.int) (pk % (1 + (i : Int))) = some (.int uu) := atI_of ez (by rw [List.getElem?_map, eu]; rfl)
            have doit : (kind = 2 ∨ kind = 3) → True := fun _ => trivial
            walk_at "go"
            refine g_kD (fun e => ?_) (fun e => ?_)
            · walk_at "go"
              rename_i v hv
              refine g_append (xs := vs) (by walk_at "look") (triv_szl ?_) ?_
              · have := hN.few; rw [hvs.length, List.length_map]; omega
              walk_at "go"
              exact ⟨_, rfl, hN.add Ha htp0 lt hv ht, put (.inl e) _ _ rfl (mem_take eu (by omega))⟩
            · walk_at "go"
              refine g_kD (fun e3 => ?_) (fun e3 => ?_)
              · walk_at "go"
                refine g_kD (fun e4 => ?_) (fun e4 => ?_)
                · walk_at "go"
                  rename_i v hv
                  refine g_append (xs := vs) (by walk_at "look") (triv_szl ?_) ?_
                  · have := hN.few; rw [hvs.length, List.length_map]; omega
                  walk_at "go"
                  exact ⟨_, rfl, hN.add Ha htp0 lt hv ht, put (.inr e3) _ _ rfl (mem_take eu (by omega))⟩
                · walk_at "go"
                  refine ⟨ts, rfl, hN.mono (Nat.le_refl _) (by omega), ?_⟩
                  rcases hcase with ⟨h1, h4', hS⟩ | ⟨hk', hS, h4'⟩
                  · exact .inr ⟨by omega, by rw [ext]; exact hS.mono fun z hz => List.mem_append_left _ hz, fun z => absurd z h4'⟩
                  · omega
              · walk_at "go"
                exact ⟨ts, rfl, hN.mono (Nat.le_refl _) (by omega), other e e3⟩
          · rintro σ' H' ⟨ts, rfl, hN, hcase⟩
            have hl := hN.line
            obtain ⟨vs, ht, hvs⟩ := hN.ties
            walk_at "go"
            rename_i u hu
            have ecut : cutV (ls.map V.int) none (some (1 + (i : Int))) = (ls.take (i + 1)).map V.int := by
              rw [cut_to (k := i + 1) (by omega) (by rw [List.length_map]; omega), List.map_take]
            rw [ecut]
            have hN0 := hN
            have hN := hN.junk (o := .lst ((ls.take (i + 1)).map V.int)) hu
            have hl := hN.line
            have hu0 : H u = none := hN0.kp.free hu
            have ul : u ≠ lp := Ne.symm (ne_of_none hN0.line hu)
            have ut : u ≠ tp := Ne.symm (ne_of_none ht hu)
            have ua : u ≠ a := fun z => Ha (by rw [← z]; exact hu0)
            walk_at "go"
            refine g_forL (xs := (ls.take (i + 1)).map V.int) (fun j σ' H' => ∃ x8 ts, σ' = [some (.ref a), some (.int most), some (.int n), some (.int kind), some (.ref lp), some (.ref tp), some (.int (1 + (i : Int))), some (.int pk), x8] ∧ H' u = some (.lst ((ls.take (i + 1)).map V.int)) ∧ NetHere H a lp tp ls (m + 50 + 50 * i + 1 + j) (50 * i + 2 + j) ts H' ∧
              ((kind = 5 ∧ NetS (ls.take (i + 1 + 1)) ts ∧ (∀ t ∈ ts, t.2 ≠ x ∧ (t.1 = x → t.2 ∈ ls.take j))) ∨ (kind ≠ 5 ∧ NetS (ls.take (i + 1 + 1)) ts ∧ (kind = 4 → ∀ t ∈ ts, ∃ j, ls[j]? = some t.1 ∧ ls[j + 1]? = some t.2))))
              ?_ (fun j σ' H' _ h => by obtain ⟨_, _, _, h, _⟩ := h; exact SqL.of h) ?_ ?_
            · refine ⟨_, ts, rfl, by walk_at "look", hN, ?_⟩
              rcases hcase with ⟨h5, hS⟩ | h
              · refine .inl ⟨h5, by rw [ext]; exact hS.mono fun z hz => List.mem_append_left _ hz, fun t ht => ⟨fun z => xn (z ▸ (hS.mem t ht).2.1), fun z => absurd (z ▸ (hS.mem t ht).1) xn⟩⟩
              · exact .inr h
            · clear hN hl
              rintro j w' σ' H' hj ⟨x8', ts, rfl, hu', hN, hcase⟩
              have hjl : j < i + 1 := by
                have := (List.getElem?_eq_some_iff.mp hj).1
                rw [List.length_map, List.length_take] at this
                omega
              obtain ⟨uu, e1, rfl⟩ : ∃ uu, ls[j]? = some uu ∧ w' = .int uu := by
                rw [List.getElem?_map, List.getElem?_take_of_lt hjl] at hj
                cases e : ls[j]? with
                | none => rw [e] at hj; cases hj
                | some uu => rw [e] at hj; cases hj; exact ⟨uu, rfl, rfl⟩
              have hl := hN.line
              obtain ⟨vs, ht, hvs⟩ := hN.ties
              walk_at "go"
              refine g_kD (fun e5 => ?_) (fun e5 => ?_)
              · walk_at "go"
                refine ⟨a, m + 50 + 50 * i + 1 + j, rfl, hN.dr, by omega, fun r Hn r0 r1 kn dn => ?_⟩
                have hu2 : Hn u = some (.lst ((ls.take (i + 1)).map V.int)) := kn.lst (nin1 ua) hu'
                have hN := hN.next Ha la ta kn dn
                clear kn dn
                have hl := hN.line
                obtain ⟨vs, ht, hvs⟩ := hN.ties
                rcases hcase with ⟨_, hS, hO⟩ | ⟨z, _⟩
                · walk_at "go"
                  refine g_kD (fun e0 => ?_) (fun e0 => ?_)
                  · walk_at "go"
                    rename_i v hv
                    refine g_append (xs := vs) (by walk_at "look") (triv_szl ?_) ?_
                    · have := hN.few; rw [hvs.length, List.length_map]; omega
                    walk_at "go"
                    have um : uu ∈ ls.take (i + 1) := mem_take e1 hjl
                    have ux : x ≠ uu := fun z => xn (z ▸ um)
                    refine ⟨_, _, rfl, ?_, hN.add Ha htp0 lt hv ht, .inl ⟨e5, ?_, fun t tm => ?_⟩⟩
                    · rw [upd_ne ut, upd_ne (ne_of_none hu2 hv)]; exact hu2
                    · refine hS.snoc (by rw [ext]; exact List.mem_append_right _ (List.mem_singleton.mpr rfl)) (by rw [ext]; exact List.mem_append_left _ um) ux fun s hs => ⟨fun z => ?_, fun z => (hO s hs).1 z.2⟩
                      exact not_mem_take lnd e1 (by rw [← show s.2 = uu from z.2]; exact (hO s hs).2 z.1)
                    · rcases List.mem_append.mp tm with tm | tm
                      · exact ⟨(hO t tm).1, fun z => by rw [take_succ' e1]; exact List.mem_append_left _ ((hO t tm).2 z)⟩
                      · obtain rfl := List.mem_singleton.mp tm
                        exact ⟨Ne.symm ux, fun _ => by rw [take_succ' e1]; exact List.mem_append_right _ (List.mem_singleton.mpr rfl)⟩
                  · walk_at "go"
                    exact ⟨_, ts, rfl, hu2, hN.mono (by omega) (by omega), .inl ⟨e5, hS, fun t tm => ⟨(hO t tm).1, fun z => by rw [take_succ' e1]; exact List.mem_append_left _ ((hO t tm).2 z)⟩⟩⟩
                · exact absurd e5 z
              · walk_at "go"
                rcases hcase with ⟨z, _⟩ | h
                · exact absurd z e5
                · exact ⟨_, ts, rfl, hu', hN.mono (by omega) (by omega), .inr h⟩
            · rintro σ' H' ⟨x8', ts, rfl, hu', hN, hcase⟩
              rw [List.length_map, List.length_take] at hN
              walk_at "go"
              refine ⟨_, _, _, ts, rfl, hN.mono (by omega) (by omega), ?_, ?_⟩
              · rcases hcase with ⟨_, h, _⟩ | ⟨_, h, _⟩
                · exact h
                · exact h
              · rcases hcase with ⟨h5, _⟩ | ⟨_, _, h⟩
                · intro z; omega
                · exact h
      · rintro σ' H' ⟨x6, x7, x8, ts, rfl, hN, hS, h4⟩
        walk_at "go"
        have e : ((n : Int) - 1).toNat = n - 1 := by omega
        rw [e] at hN hS
        rw [show n - 1 + 1 = n by omega] at hS
        exact ⟨_, _, _, ts, rfl, hN, hS, h4⟩
    · rintro σ' H' ⟨x6, x7, x8, ts, rfl, hN, hS, h4⟩
      have hl := hN.line
      obtain ⟨vs, ht, hvs⟩ := hN.ties
      rw [List.take_of_length_le (by omega)] at hS
      have e0 : ls[0]? = some ls[0] := List.getElem?_eq_getElem (by omega)
      have e1 : ls[n - 1]? = some ls[n - 1] := List.getElem?_eq_getElem (by omega)
      generalize ls[0] = y at e0
      generalize ls[n - 1] = x at e1
      have at0 : atI (ls.map V.int) 0 = some (.int y) := atI_of (n := 0) rfl (by rw [List.getElem?_map, e0]; rfl)
      have at1 : atI (ls.map V.int) (-1) = some (.int x) := by
        unfold atI ixN
        rw [if_neg (by omega), if_pos (by rw [List.length_map]; omega), List.length_map, ll, show (-1 + (n : Int)).toNat = n - 1 by omega]
        show (ls.map V.int)[n - 1]? = _
        rw [List.getElem?_map, e1]; rfl
      have xy : y ≠ x := fun z => by
        obtain ⟨h0, f0⟩ := List.getElem?_eq_some_iff.mp e0
        obtain ⟨h1, f1⟩ := List.getElem?_eq_some_iff.mp e1
        have := (List.getElem_inj lnd).mp (f0.trans (z.trans f1.symm))
        omega
      have pos : ∀ {i j : Nat} {z : Int}, ls[i]? = some z → ls[j]? = some z → i = j := fun {i j z} a b => by
        obtain ⟨h0, f0⟩ := List.getElem?_eq_some_iff.mp a
        obtain ⟨h1, f1⟩ := List.getElem?_eq_some_iff.mp b
        exact (List.getElem_inj lnd).mp (f0.trans f1.symm)
      have inup : ∀ z ∈ ls, z ∈ up n := fun z hz => hls.mem_iff.mp hz
      refine g_cut (fun σ' H' => ∃ ts, σ' = [some (.ref a), some (.int most), some (.int n), some (.int kind), some (.ref lp), some (.ref tp), x6, x7, x8] ∧ NetHere H a lp tp ls (m + 50 + 50 * (n - 1)) (50 * (n - 1) + 1) ts H' ∧ NetS ls ts) ?_ ?_
      · walk_at "go"
        refine g_kD (fun e4 => ?_) (fun e4 => ?_)
        · walk_at "go"
          rename_i v hv
          refine g_append (xs := vs) (by walk_at "look") (triv_szl ?_) ?_
          · have := hN.few; rw [hvs.length, List.length_map]; omega
          walk_at "go"
          refine ⟨_, rfl, hN.add Ha htp0 lt hv ht, hS.snoc (List.mem_of_getElem? e0) (List.mem_of_getElem? e1) xy fun s hs => ⟨fun z => ?_, fun z => ?_⟩⟩
          · obtain ⟨j, j1, j2⟩ := h4 e4 s hs
            rw [z.1] at j1
            rw [z.2] at j2
            have a1 := pos j1 e0
            have a2 := pos j2 e1
            omega
          · obtain ⟨j, j1, j2⟩ := h4 e4 s hs
            rw [z.1] at j1
            rw [z.2] at j2
            have a1 := pos j1 e1
            have a2 := pos j2 e0
            omega
        · walk_at "go"
          exact ⟨ts, rfl, hN.mono (by omega) (by omega), hS⟩
      · rintro σ' H' ⟨ts, rfl, hN, hS⟩
        obtain ⟨vs, ht, hvs⟩ := hN.ties
        walk_at "go"
        rename_i v hv
        refine q v tp n ts _ n3 nm (hS.mono inup) (hN.kp.free hv) upd_same (.lst htp0 (by rw [upd_ne (ne_of_none ht hv)]; exact ht) (hvs.keep (Kp.new (S := []) hv) (fun _ _ => nin0) fun _ h => h.1)) (hN.kp.put (hN.kp.free hv)) ((hN.dr.mono (by omega)).new hv)
end
end Ap


namespace Ap
open PySem L2 PySem.Spec PyProof.Rows
def spOrd : Sp := fun vs H Q _ => ∃ (p : Addr) (o : List Int) (n : Nat), vs = [.ref p] ∧ H p = some (.lst (o.map V.int)) ∧ 3 ≤ n ∧ n ≤ 40 ∧ Stand n o ∧ ∀ H', Kp [] H H' → Q .non H'
def spOrds : Sp := fun vs H Q _ => ∃ (p p' : Addr) (o o' : List Int) (n : Nat), vs = [.ref p, .ref p'] ∧ H p = some (.lst (o.map V.int)) ∧ H p' = some (.lst (o'.map V.int)) ∧ 3 ≤ n ∧ n ≤ 40 ∧ Stand n o ∧ Stand n o' ∧ ∀ H', Kp [] H H' → Q .non H'
def spBrk : Sp := fun vs H Q _ => ∃ (p : Addr) (o : List Int) (n : Nat), vs = [.ref p] ∧ H p = some (.lst (o.map V.int)) ∧ 1 ≤ n ∧ n ≤ 40 ∧ Stand n o ∧ ∀ q H', H q = none → Kp [] H H' → H' q = some (.lst ((brk n o).map V.int)) → Q (.ref q) H'
def spAlk : Sp := fun vs H Q _ => ∃ (p p' : Addr) (o o' : List Int) (n : Nat), vs = [.ref p, .ref p'] ∧ H p = some (.lst (o.map V.int)) ∧ H p' = some (.lst (o'.map V.int)) ∧ 3 ≤ n ∧ n ≤ 40 ∧ Stand n o ∧ Stand n o' ∧ ∀ H', Kp [] H H' → Q (.bl (decide (brk n o = brk n o'))) H'
/-- the first i calls that are looked at for breaks -/
def brkTo (n : Nat) (o : List Int) (i : Nat) : List Int := ((up n).take i).filter fun c => decide (o.idxOf (nx n c) < o.idxOf c)
theorem brkTo_succ {n : Nat} {o : List Int} {i : Nat} (h : i < n) : brkTo n o (i + 1) = brkTo n o i ++ if o.idxOf (nx n (1 + (i : Int))) < o.idxOf (1 + (i : Int)) then [1 + (i : Int)] else [] := by
  unfold brkTo
  have et : (up n).take (i + 1) = (up n).take i ++ [1 + (i : Int)] := by
    rw [List.take_add_one]
    unfold up
    rw [List.getElem?_map, List.getElem?_range h]; rfl
  rw [et, List.filter_append, List.filter_cons, List.filter_nil]
  congr 1
  by_cases c : o.idxOf (nx n (1 + (i : Int))) < o.idxOf (1 + (i : Int))
  · rw [if_pos (decide_eq_true c), if_pos c]
  · rw [if_neg (by rw [decide_eq_false c]; decide), if_neg c]
theorem brkTo_len (n : Nat) (o : List Int) (i : Nat) : (brkTo n o i).length ≤ i := Nat.le_trans (List.length_filter_le _ _) (by rw [List.length_take]; omega)
theorem brkTo_all (n : Nat) (o : List Int) : brkTo n o n = brk n o := by
  unfold brkTo brk
  rw [List.take_of_length_le (by rw [up_length]; omega)]
section
variable {P : Program} {w : World} {K : PySem.W.Frag} {mg : Str → Option Value} {base : Heap}
theorem ok_check_order (T : Txt K mg base) : FnOk P w K mg base CX0 5 T.a_check_order T.fd_check_order ["order"] spOrd := by
  refine fnK_of0 T.F_check_order sc_check_order (fun vs H Q E h => ?_) (fun cdv A outer s H vs Q E hcd hr h => ?_)
  · obtain ⟨p, o, n, rfl, _⟩ := h
    rfl
  · obtain ⟨p, o, n, rfl, hp, n3, n40, hS, q⟩ := h
    refine ⟨_, (pss_cons (ps_if (PW.pt (pw_or (pt_not (pt_val (pe_callB call_isi (by rfl) T.n_isinstance (by decide +kernel) (pa_cons (pv 0) (pa_cons (pe_bltn (v := .ty "list") (u := .type "list") rfl T.n_list (by decide +kernel) rfl) pa_nil))))) (pw_or1 (pt_not (pt_chain op_le op_le (pe_glob (v := .int 3) rfl T.v_FEWEST_SEATS ⟨_, rfl⟩) (pe_callB cr_len (by rfl) T.n_len (by decide +kernel) (pa_cons (pv 0) pa_nil)) (pe_glob (v := .int 40) rfl T.v_MOST_SEATS ⟨_, rfl⟩))))))
      (pss_one ps_never)
      pss_nil)
    (pss_one (ps_expr (pe_call (ok_check_order_of T) (hr.mono (by decide)) rfl T.m_check_order_of T.F_check_order_of.kp T.b_check_order_of .nil pass0 (pa_cons (pv 0) (pa_cons (pe_callB cr_len (by rfl) T.n_len (by decide +kernel) (pa_cons (pv 0) pa_nil)) pa_nil)))))), ?_⟩
    rw [show start ["order"] [.ref p] = [some (.ref p)] from rfl]
    walk_at "go"
    refine g_isi (T' := "list") (.base (.lst hp)) (by decide +kernel : kitB "list" "list" = some true) ?_
    walk_at "go"
    rw [List.length_map, hS.length]
    refine g_kDY (by omega) ?_
    walk_at "go"
    refine g_kNX (by omega) ?_
    walk_at "go"
    rw [List.length_map, hS.length]
    refine ⟨p, o, n, rfl, hp, n40, hS, fun H' hK => ?_⟩
    walk_at "go"
    exact q H' hK

theorem ok_check_orders (T : Txt K mg base) : FnOk P w K mg base CX0 6 T.a_check_orders T.fd_check_orders ["order", "other"] spOrds := by
  refine fnK_of0 T.F_check_orders sc_check_orders (fun vs H Q E h => ?_) (fun cdv A outer s H vs Q E hcd hr h => ?_)
  · obtain ⟨p, p', o, o', n, rfl, _⟩ := h
    rfl
  · obtain ⟨p, p', o, o', n, rfl, hp, hp', n3, n40, hS, hS', q⟩ := h
    refine ⟨_, (pss_cons (ps_expr (pe_call (ok_check_order T) (hr.mono (by decide)) rfl T.m_check_order T.F_check_order.kp T.b_check_order .nil pass0 (pa_cons (pv 0) pa_nil)))
    (pss_one (ps_expr (pe_call (ok_check_order_of T) (hr.mono (by decide)) rfl T.m_check_order_of T.F_check_order_of.kp T.b_check_order_of .nil pass0 (pa_cons (pv 1) (pa_cons (pe_callB cr_len (by rfl) T.n_len (by decide +kernel) (pa_cons (pv 0) pa_nil)) pa_nil)))))), ?_⟩
    rw [show start ["order", "other"] [.ref p, .ref p'] = [some (.ref p), some (.ref p')] from rfl]
    walk_at "go"
    refine ⟨p, o, n, rfl, hp, n3, n40, hS, fun H1 k1 => ?_⟩
    walk_at "go"
    rw [List.length_map, hS.length]
    refine ⟨p', o', n, rfl, k1.lst nin0 hp', n40, hS', fun H2 k2 => ?_⟩
    walk_at "go"
    exact q H2 (k1.trans k2)

theorem ok_breaks_in (T : Txt K mg base) : FnOk P w K mg base CX0 2 T.a_breaks_in T.fd_breaks_in ["order"] spBrk := by
  refine fnK_of0 T.F_breaks_in sc_breaks_in (fun vs H Q E h => ?_) (fun cdv A outer s H vs Q E hcd hr h => ?_)
  · obtain ⟨p, o, n, rfl, _⟩ := h
    rfl
  · obtain ⟨p, o, n, rfl, hp, n1, n40, hS, q⟩ := h
    have ln := hS.length
    refine ⟨_, (pss_cons (ps_set (i := 1) sc_breaks_in.nd rfl (Or.inr rfl) (pe_dc (own := [("place", 2), ("call", 3)]) (g := gTup K 2 (gCons (gName 2) (gCons (gName 3) gNil))) (tt := tYes) rfl sc_breaks_in.nd (pi_enum (by rfl) T.n_enumerate (pa_cons (pv 0) pa_nil)) (blkOk_by (N := ["order", "spot", "place", "call"]) (sc := defScope s_breaks_in) (by decide +kernel)) (fun _ _ _ _ _ => (pg_tup rfl (pgs_cons (pg_name (i := 2) sc_breaks_in.nd rfl (Or.inl rfl)) (pgs_cons (pg_name (i := 3) sc_breaks_in.nd rfl (Or.inl rfl)) pgs_nil)))) (fun _ _ _ _ _ => pts_nil) (fun _ _ _ _ _ => (pv 3)) (fun _ _ _ _ _ => (pv 2))))
    (pss_one (ps_ret (pe_lc (own := [("call", 3)]) (g := gName 3) rfl sc_breaks_in.nd (pi_range2 (by rfl) T.n_range (pa_cons pe_int (pa_cons (pe_op op_add (pe_callB cr_len (by rfl) T.n_len (by decide +kernel) (pa_cons (pv 0) pa_nil)) pe_int) pa_nil))) (blkOk_by (N := ["order", "spot", "place", "call"]) (sc := defScope s_breaks_in) (by decide +kernel)) (fun _ _ _ _ _ => (pg_name (i := 3) sc_breaks_in.nd rfl (Or.inl rfl))) (fun _ _ _ _ _ => (pts_one (pt_cmpR op_gt (pe_dget hr.u1 (pv 1) (pv 3) (fun _ _ => rfl)) (pe_dget hr.u1 (pv 1) (pe_call (ok_next_round T) (hr.mono (by decide)) rfl T.m_next_round T.F_next_round.kp T.b_next_round .nil pass0 (pa_cons (pv 3) (pa_cons (pe_callB (r := rLn K) cr_len (by rfl) T.n_len (by decide +kernel) (pa_cons (pv 0) pa_nil)) pa_nil))) (fun _ _ => rfl)) (nomark _)))) (fun _ _ _ _ _ => (pv 3)))))), ?_⟩
    rw [show start ["order", "spot", "place", "call"] [.ref p] = [some (.ref p), none, none, none] from rfl]
    walk_at "go"
    refine dc_it (walk_enum (xs := o.map V.int)) (w0 := [some (.ref p), none, none, none]) rfl fun sp hsp => ⟨fun i H' => H' sp = some (.dK (kvm (o.take i) fun c => .int (o.idxOf c))) ∧ Kp [] H H', ⟨upd_same, (Kp.refl _ _).put hsp⟩, fun _ _ _ h => SqL.of (h.2.lst nin0 hp), ?_, ?_⟩
    · rintro i x H1 H' hi ⟨h1, hK⟩ ⟨Tp, xi, y, rfl, hTp, rfl, hx1, hx2⟩
      cases hx1
      have hx2 : (o.map V.int)[i]? = some y := hx2
      rw [List.getElem?_map] at hx2
      obtain ⟨z, hz, rfl⟩ := Option.map_eq_some_iff.mp hx2
      rw [List.length_map] at hi
      have spT : sp ≠ Tp := ne_of_none h1 hTp
      walk_at "go"
      refine g_kDg rfl ?_
      walk_at "go"
      refine g_kDv (k := .inl z) rfl (kvs := kvm (o.take i) fun c => .int (o.idxOf c)) (by walk_at "look") (triv_szl (by rw [kvm_len, List.length_take]; omega)) ⟨?_, ?_⟩
      · rw [take_succ' hz, ← kvm_new (not_mem_take hS.nodup hz), idxOf_at hS.nodup hz]
        exact upd_same
      · exact (hK.put (hK.free hTp)).put hsp
    rintro H1 ⟨h1, hK⟩
    rw [List.length_map, List.take_of_length_le (Nat.le_refl _)] at h1
    have hp1 := hK.lst nin0 hp
    walk_at "go"
    rw [List.length_map, ln]
    walk_at "go"
    rw [show ((n : Int) + 1 - 1).toNat = n by omega]
    refine g_lc walk_range (w0 := [some (.ref p), some (.ref sp), none, none]) rfl fun D hD => ⟨fun i G => G D = some (.lst ((brkTo n o i).map V.int)) ∧ Kp [] H1 G, ⟨upd_same, (Kp.refl _ _).put hD⟩, fun _ _ _ _ => trivial, ?_, ?_⟩
    · rintro i x G G' hi ⟨hG, hKG⟩ ⟨rfl, rfl⟩
      have hi : i < n := hi
      have cin : (1 + (i : Int)) ∈ up n := up_mem.mpr (by omega)
      have din := nx_mem (n := n) (c := 1 + (i : Int)) n1
      have v1 : valV (kvm o fun c => .int (o.idxOf c)) (.inl (1 + (i : Int))) = some (.int (o.idxOf (1 + (i : Int)))) := kvm_val (hS.mem.mpr cin)
      have v2 : valV (kvm o fun c => .int (o.idxOf c)) (.inl (nx n (1 + (i : Int)))) = some (.int (o.idxOf (nx n (1 + (i : Int))))) := kvm_val (hS.mem.mpr din)
      have hsp := hKG.look nin0 h1 (ntb rfl)
      have hpG := hKG.lst nin0 hp1
      walk_at "go"
      refine g_kLg rfl ?_
      walk_at "go"
      refine g_get (k := .inl (1 + (i : Int))) hsp rfl v1 ?_
      walk_at "go"
      rw [List.length_map, ln]
      refine ⟨n, 1 + (i : Int), rfl, by omega, ?_⟩
      walk_at "go"
      refine g_get (k := .inl (nx n (1 + (i : Int)))) hsp rfl v2 ?_
      walk_at "go"
      refine g_kD (fun e => ?_) (fun e => ?_)
      · walk_at "go"
        refine g_kLe hG (triv_szl (by have := brkTo_len n o i; rw [List.length_map]; omega)) ⟨?_, hKG.put hD⟩
        rw [brkTo_succ hi, if_pos (by omega), List.map_append]
        exact upd_same
      · refine ⟨?_, hKG⟩
        rw [brkTo_succ hi, if_neg (by omega), List.append_nil]
        exact hG
    · rintro G ⟨hG, hKG⟩
      rw [brkTo_all] at hG
      walk_at "go"
      exact q D G (hK.free hD) (hK.trans hKG) hG

end
end Ap


/-! goals_in, fewest_turns, turns. -/
namespace Ap
open PySem L2 PySem.Spec PyProof.Rows
def nB (o : List Int) (n : Nat) : Nat := (brk n o).length
def spGoals (tb : List Addr) : Sp := fun vs H Q _ => ∃ (p p' : Addr) (o o' : List Int) (n : Nat), vs = [.ref p, .ref p'] ∧ H p = some (.lst (o.map V.int)) ∧ H p' = some (.lst (o'.map V.int)) ∧ 3 ≤ n ∧ n ≤ 40 ∧ Stand n o ∧ Stand n o' ∧ Tabs tb H ∧
  (nB o n ≠ nB o' n → ∀ H', Kp [] H H' → Q .non H') ∧
  (nB o n = nB o' n → ∀ m k r sp gp H', bst n (brk n o) (brk n o') (2 * nB o n + 1) = some (m, k) → H r = none → H sp = none → H gp = none → gp ≠ sp → Kp [] H H' → H' r = some (.tup [.int (m : Nat), .ref sp, .ref gp]) →
    H' sp = some (.lst ((brk n o).map V.int)) → H' gp = some (.lst ((glv n (brk n o') k).map V.int)) → Q (.ref r) H')
/-- what the loop holds of the best so far -/
def ToldIs (H G : Hp) (n : Nat) (B : List Int) (sp : Addr) : Option (Nat × Int) → V → Prop
  | none, v => v = .non
  | some (m, k), v => ∃ r gp, v = .ref r ∧ H r = none ∧ H gp = none ∧ gp ≠ sp ∧ G r = some (.tup [.int (m : Nat), .ref sp, .ref gp]) ∧ G gp = some (.lst ((glv n B k).map V.int))
theorem ToldIs.kp {H G G' : Hp} {n : Nat} {B : List Int} {sp : Addr} : ∀ {b : Option (Nat × Int)} {v : V}, ToldIs H G n B sp b v → Kp [] G G' → ToldIs H G' n B sp b v
  | none, _, h, _ => h
  | some (_, _), _, ⟨r, gp, e, h1, h2, h3, h4, h5⟩, k => ⟨r, gp, e, h1, h2, h3, k.tup nin0 h4, k.lst nin0 h5⟩
section
variable {P : Program} {w : World} {K : PySem.W.Frag} {mg : Str → Option Value} {base : Heap}
theorem tb_goals (T : Txt K mg base) : T.p_goals_in ∈ T.tbs := by simp [Txt.tbs]
theorem ok_goals_in (T : Txt K mg base) : FnOk P w K mg base CX0 4 T.a_goals_in T.fd_goals_in ["order", "other"] (spGoals T.tbs) := by
  refine fnK_of0 T.F_goals_in sc_goals_in (fun vs H Q E h => ?_) (fun cdv A outer s H vs Q E hcd hr h => ?_)
  · obtain ⟨p, p', o, o', n, rfl, _⟩ := h
    rfl
  · obtain ⟨p, p', o, o', n, rfl, hp, hp', n3, n40, hS, hS', hT, q1, q2⟩ := h
    have ln := hS.length
    refine ⟨_, (pss_cons (ps_set (i := 2) sc_goals_in.nd rfl (Or.inr rfl) (pe_callB cr_len (by rfl) T.n_len (by decide +kernel) (pa_cons (pv 0) pa_nil)))
    (pss_cons (ps_set (i := 3) sc_goals_in.nd rfl (Or.inl rfl) (pe_call (ok_breaks_in T) (hr.mono (by decide)) rfl T.m_breaks_in T.F_breaks_in.kp T.b_breaks_in .nil pass0 (pa_cons (pv 0) pa_nil)))
    (pss_cons (ps_set (i := 4) sc_goals_in.nd rfl (Or.inr rfl) (pe_call (ok_breaks_in T) (hr.mono (by decide)) rfl T.m_breaks_in T.F_breaks_in.kp T.b_breaks_in .nil pass0 (pa_cons (pv 1) pa_nil)))
    (pss_cons (ps_set (i := 5) sc_goals_in.nd rfl (Or.inr rfl) (pe_callB cr_len (by rfl) T.n_len (by decide +kernel) (pa_cons (pv 3) pa_nil)))
    (pss_cons (ps_if (pt_cmpR op_ne (pe_callB cr_len (by rfl) T.n_len (by decide +kernel) (pa_cons (pv 4) pa_nil)) (pv 5) (nomark _))
      (pss_one (ps_ret pe_non))
      pss_nil)
    (pss_cons (ps_set (i := 6) sc_goals_in.nd rfl (Or.inl rfl) pe_non)
    (pss_cons (ps_for PassesOwn.never rfl (pi_range2 (by rfl) T.n_range (pa_cons (pe_un un_neg (pv 5)) (pa_cons (pe_op op_add (pv 5) pe_int) pa_nil))) (pg_name (i := 7) sc_goals_in.nd rfl (Or.inr rfl))
      (pss_cons (ps_setLc (i := 8) (own := [("at", 10)]) (g := gName 10) (tt := tYes) rfl sc_goals_in.nd rfl rfl (sw_true rfl rfl rfl (by decide +kernel)) (pi_range1 (by rfl) T.n_range (pa_cons (pv 5) pa_nil)) (blkOk_by (N := ["order", "other", "count", "spots", "ends", "size", "told", "shift", "goals", "far", "at"]) (sc := defScope s_goals_in) (by decide +kernel)) (fun _ _ _ _ _ => (pg_name (i := 10) sc_goals_in.nd rfl (Or.inl rfl))) (fun _ _ _ _ _ => pts_nil) (fun _ _ _ _ _ => (pe_op op_add (pe_ix (r := rIxL K) ix_list (pv 4) (pe_op op_mod (pe_op op_add (pv 10) (pv 7)) (pv 5)) (fun _ _ => rfl)) (pe_op op_mul (pv 2) (pe_op op_fdiv (pe_op op_add (pv 10) (pv 7)) (pv 5))))))
      (pss_cons (ps_set (i := 9) sc_goals_in.nd rfl (Or.inl rfl) (pe_sumZ (P := T.p_goals_in) hr rfl T.n_sum rfl T.n_zip T.TB_goals_in (hcd.symm.trans T.k_goals_in) (gs2_of rfl rfl (by decide) rfl rfl rfl (by decide) (by decide)) (pa_cons (pv 3) (pa_cons (pv 8) pa_nil)) (el_absSub rfl rfl rfl rfl rfl T.n_abs) (fun _ => rfl) (hCn := fun _ _ _ _ _ _ ⟨i, j, a, b, h⟩ g => ⟨i, j, a, b, fun t => g _ (h t)⟩)))
      (pss_one (ps_if (PW.pt (pw_or (pt_cmpR op_isN (pv 6) pe_non (nomark _)) (pw_or1 (pt_cmpR op_lt (pv 9) (pe_ix ix_tup (pv 6) pe_int (fun _ _ => rfl)) (nomark _)))))
        (pss_one (ps_set (i := 6) sc_goals_in.nd rfl (Or.inl rfl) (pe_tup (pa_cons (pv 9) (pa_cons (pv 3) (pa_cons (pv 8) pa_nil))))))
        pss_nil)))))
    (pss_one (ps_ret (pv 6)))))))))), ?_⟩
    rw [show start ["order", "other", "count", "spots", "ends", "size", "told", "shift", "goals", "far", "at"] [.ref p, .ref p'] = [some (.ref p), some (.ref p'), none, none, none, none, none, none, none, none, none] from rfl]
    walk_at "go"
    rw [List.length_map, ln]
    refine ⟨p, o, n, rfl, hp, by omega, n40, hS, fun a1 H1 a10 k1 e1 => ?_⟩
    walk_at "go"
    refine ⟨p', o', n, rfl, k1.lst nin0 hp', by omega, n40, hS', fun a2 H2 a20 k2 e2 => ?_⟩
    have e1 := k2.lst nin0 e1
    have hk : Kp [] H H2 := k1.trans k2
    have a20 : H a2 = none := k1.free a20
    clear k1 k2
    have hB := brk_bks (by omega) hS
    have hB' := brk_bks (by omega) hS'
    unfold nB at q1 q2
    generalize brk n o = A at *
    generalize brk n o' = B at *
    walk_at "go"
    rw [List.length_map]
    walk_at "go"
    rw [List.length_map]
    refine g_kN (fun e => ?_) (fun e => ?_)
    · walk_at "go"
      exact q1 (fun z => e (by omega)) H2 hk
    have hl : A.length = B.length := by omega
    have q2 := q2 hl
    have hAp := hB.pos
    have hAl := hB.lt
    walk_at "go"
    rw [show ((A.length : Int) + 1 - -(A.length : Int)).toNat = 2 * A.length + 1 by omega]
    refine g_forR (fun i σ' G => ∃ tv x7 x8 x9 x10, σ' = [some (.ref p), some (.ref p'), some (.int n), some (.ref a1), some (.ref a2), some (.int A.length), some tv, x7, x8, x9, x10] ∧ Kp [] H2 G ∧ ToldIs H G n B a1 (bst n A B i) tv)
      ⟨_, _, _, _, _, rfl, Kp.refl _ _, rfl⟩ ?_ ?_
    · rintro i σ' G hi ⟨tv, x7, x8, x9, x10, rfl, hK, hTo⟩
      have e1G := hK.lst nin0 e1
      have e2G := hK.lst nin0 e2
      have hTB := (hk.trans hK).tabs hT
      generalize hkk : -(A.length : Int) + i = kk
      walk_at "go"
      rw [show ((A.length : Int)).toNat = A.length by omega]
      refine g_lc walk_range (w0 := [some (.ref p), some (.ref p'), some (.int n), some (.ref a1), some (.ref a2), some (.int A.length), some tv, some (.int kk), x8, x9, none]) rfl fun D hD => ⟨fun j G' => G' D = some (.lst (((glv n B kk).take j).map V.int)) ∧ Kp [] G G', ⟨upd_same, (Kp.refl _ _).put hD⟩, fun _ _ _ _ => trivial, ?_, ?_⟩
      · rintro j x G1 G2 hj ⟨hG1, hK1⟩ ⟨rfl, rfl⟩
        have hj : j < A.length := hj
        have e2' := hK1.lst nin0 e2G
        walk_at "go"
        refine g_kLg rfl ?_
        have b0 := Int.emod_nonneg ((j : Int) + kk) (b := A.length) (by omega)
        have b1 := Int.emod_lt_of_pos ((j : Int) + kk) (b := A.length) (by omega)
        obtain ⟨r, er⟩ : ∃ r : Nat, ((j : Int) + kk) % A.length = r := ⟨(((j : Int) + kk) % A.length).toNat, by omega⟩
        have hr : r < B.length := by omega
        have at1 : atI (B.map V.int) ((0 + (j : Int) + kk) % A.length) = some (.int B[r]) := atI_of (n := r) (by rw [Int.zero_add]; exact er) (by rw [List.getElem?_map, List.getElem?_eq_getElem hr]; rfl)
        walk_at "go"
        refine g_kLe hG1 (triv_szl (by rw [List.length_map, List.length_take]; omega)) ⟨?_, hK1.put hD⟩
        rw [List.take_add_one, glv_get (by omega), List.map_append]
        have el : lq n B (j + kk) = B[r] + n * ((0 + (j : Int) + kk) / A.length) := by
          unfold lq
          rw [← hl, er, Int.zero_add, show ((r : Int)).toNat = r by omega, List.getD_eq_getElem?_getD, List.getElem?_eq_getElem hr]
          rfl
        rw [el]
        exact upd_same
      · rintro G1 ⟨hG1, hK1⟩
        rw [List.take_of_length_le (by rw [glv_len]; omega)] at hG1
        have hKG := hK.trans hK1
        have D0 : H D = none := (hk.trans hK).free hD
        have Da1 : D ≠ a1 := fun z => by rw [z, e1G] at hD; cases hD
        have e1G1 := hK1.lst nin0 e1G
        have hT1 := hK1.tabs hTB
        have hTo1 := hTo.kp hK1
        walk_at "go"
        refine ⟨a1, D, A.map V.int, (glv n B kk).map V.int, fun x y => match x, y with | .int i, .int j => if i - j < 0 then -(i - j) else i - j | _, _ => 0, rfl, SqL.of e1G1, SqL.of hG1, fun i x y hx hy => ?_, hT1 _ (tb_goals T), fun G2 hT2 => ?_⟩
        · rw [List.getElem?_map] at hx hy
          obtain ⟨a, _, rfl⟩ := Option.map_eq_some_iff.mp hx
          obtain ⟨b, _, rfl⟩ := Option.map_eq_some_iff.mp hy
          exact ⟨a, b, rfl, rfl, fun t => ⟨t, rfl⟩⟩
        have hK2 : Kp [] G1 G2 := Kp.tabbed T.lg_goals_in (hT1 _ (tb_goals T)) hT2
        rw [List.zipWith_map]
        rw [show (List.zipWith (fun a b => match V.int a, V.int b with | .int i, .int j => if i - j < 0 then -(i - j) else i - j | _, _ => 0) A (glv n B kk)).sum = farS A (glv n B kk) from rfl, farS_eq]
        have hG2 := hK2.lst nin0 hG1
        have hTo2 := hTo1.kp hK2
        have hKG2 := hKG.trans hK2
        have e1G2 := hK2.lst nin0 e1G1
        have succ : bst n A B (i + 1) = bstep n A B (bst n A B i) kk := by rw [← hkk]; rfl
        rw [succ]
        clear hTo1 hTo hKG hT1 hG1 hK1 e1G1 hTB e1G e2G
        cases ebst : bst n A B i with
        | none =>
          rw [ebst] at hTo2
          obtain rfl : tv = .non := hTo2
          walk_at "go"
          refine ⟨rfl, ?_⟩
          walk_at "go"
          refine g_kDY rfl ?_
          walk_at "go"
          rename_i r hr
          have rD : D ≠ r := ne_of_none hG2 hr
          refine ⟨_, _, _, _, _, rfl, hKG2.put (hKG2.free hr), ?_⟩
          exact ⟨r, D, rfl, (hk.trans hKG2).free hr, D0, Da1, upd_same, by rw [upd_ne rD]; exact hG2⟩
        | some mk =>
          obtain ⟨m, k⟩ := mk
          rw [ebst] at hTo2
          obtain ⟨r, gp, rfl, h1, h2, h3, h4, h5⟩ := hTo2
          walk_at "go"
          refine ⟨rfl, ?_⟩
          walk_at "go"
          refine g_kDX (fun z => nomatch z) ?_
          walk_at "go"
          have ec : ((farL A (glv n B kk) : Nat) : Int) < (m : Nat) ↔ farL A (glv n B kk) < m := by omega
          have eb : bstep n A B (some (m, k)) kk = if farL A (glv n B kk) < m then some (farL A (glv n B kk), kk) else some (m, k) := rfl
          rw [eb]
          refine g_kD (fun e => ?_) (fun e => ?_)
          · rw [if_pos (ec.mp e)]
            walk_at "go"
            rename_i r' hr
            have rD : D ≠ r' := ne_of_none hG2 hr
            refine ⟨_, _, _, _, _, rfl, hKG2.put (hKG2.free hr), ?_⟩
            exact ⟨r', D, rfl, (hk.trans hKG2).free hr, D0, Da1, upd_same, by rw [upd_ne rD]; exact hG2⟩
          · rw [if_neg (fun z => e (ec.mpr z))]
            walk_at "go"
            exact ⟨_, _, _, _, _, rfl, hKG2, r, gp, rfl, h1, h2, h3, h4, h5⟩
    · rintro σ' G ⟨tv, x7, x8, x9, x10, rfl, hK, hTo⟩
      obtain ⟨m, k, eb, _⟩ := bst_spec n A B (2 * A.length + 1) (by omega)
      rw [eb] at hTo
      obtain ⟨r, gp, rfl, h1, h2, h3, h4, h5⟩ := hTo
      walk_at "go"
      exact q2 m k r a1 gp G eb h1 a10 h2 h3 (hk.trans hK) h4 (hK.lst nin0 e1) h5
end
/-! ### turns -/
theorem ite_of {α : Type} {C : α → Prop} {c : Prop} [Decidable c] {a b : α} (ha : C a) (hb : C b) : C (if c then a else b) := by
  split
  · exact ha
  · exact hb
theorem stp_len (n : Nat) (gs : List Int) (st : List Int × List Int) (i : Nat) : (stp n gs st i).1.length = st.1.length := by
  unfold stp
  exact ite_of (C := fun x : List Int × List Int => x.1.length = st.1.length) List.length_set rfl
theorem stp_told (n : Nat) (gs : List Int) (st : List Int × List Int) (i : Nat) : (stp n gs st i).2.length ≤ st.2.length + 1 := by
  unfold stp
  exact ite_of (C := fun x : List Int × List Int => x.2.length ≤ st.2.length + 1) (Nat.le_of_eq (by rw [List.length_append]; rfl)) (Nat.le_succ _)
theorem stps_len (n : Nat) (gs : List Int) (st : List Int × List Int) : ∀ i, ((List.range i).foldl (stp n gs) st).1.length = st.1.length
  | 0 => rfl
  | i + 1 => by rw [List.range_succ, List.foldl_append]; exact (stp_len n gs _ i).trans (stps_len n gs st i)
theorem stps_told (n : Nat) (gs : List Int) (st : List Int × List Int) : ∀ i, ((List.range i).foldl (stp n gs) st).2.length ≤ st.2.length + i
  | 0 => Nat.le_refl _
  | i + 1 => by
    rw [List.range_succ, List.foldl_append]
    have := stp_told n gs ((List.range i).foldl (stp n gs) st) i
    have := stps_told n gs st i
    show (stp n gs _ i).2.length ≤ _
    omega
theorem farL_bound {n : Nat} : ∀ {A B : List Int}, (∀ x ∈ A, 1 ≤ x ∧ x ≤ n) → (∀ x ∈ B, 1 ≤ x ∧ x ≤ n) → farL A B ≤ A.length * n
  | [], B, _, _ => by simp [farL]
  | _ :: _, [], _, _ => Nat.zero_le _
  | x :: A, y :: B, hA, hB => by
    have ih := farL_bound (A := A) (B := B) (fun z hz => hA z (List.mem_cons_of_mem _ hz)) (fun z hz => hB z (List.mem_cons_of_mem _ hz))
    have h1 := hA x List.mem_cons_self
    have h2 := hB y List.mem_cons_self
    unfold farL at ih ⊢
    rw [List.zipWith_cons_cons, List.sum_cons, List.length_cons, Nat.succ_mul]
    omega
def unI : Option HO → List Int
  | some (.lst vs) => vs.map fun v => match v with
    | .int i => i
    | _ => 0
  | _ => []
theorem unI_ints (xs : List Int) : unI (some (.lst (xs.map V.int))) = xs := by
  show (xs.map V.int).map _ = xs
  rw [List.map_map]
  exact (List.map_congr_left (fun _ _ => rfl)).trans (List.map_id xs)
theorem stp_eq {n : Nat} {gs : List Int} {st : List Int × List Int} {i : Nat} {x z : Int} (hx : st.1[i]? = some x) (hz : gs[i]? = some z) :
    stp n gs st i = if bi (decide (x < z)) - bi (decide (x > z)) ≠ 0 ∧ (x + (bi (decide (x < z)) - bi (decide (x > z)))) % n ∉ st.1.map (· % (n : Int)) then
      (st.1.set i (x + (bi (decide (x < z)) - bi (decide (x > z)))), st.2 ++ [wrp n (max x (x + (bi (decide (x < z)) - bi (decide (x > z)))))]) else st := by
  unfold stp bi
  simp only [List.getD_eq_getElem?_getD, hx, hz, Option.getD_some, decide_eq_true_eq, gt_iff_lt]
theorem max_if {x e : Int} : (if x + e > x then x + e else x) = max x (x + e) := by
  split <;> omega
def spFewest (tb : List Addr) : Sp := fun vs H Q _ => ∃ (p p' : Addr) (o o' : List Int) (n : Nat), vs = [.ref p, .ref p'] ∧ H p = some (.lst (o.map V.int)) ∧ H p' = some (.lst (o'.map V.int)) ∧ 3 ≤ n ∧ n ≤ 40 ∧ Stand n o ∧ Stand n o' ∧ Tabs tb H ∧
  (nB o n ≠ nB o' n → ∀ H', Kp [] H H' → Q .non H') ∧ (nB o n = nB o' n → ∀ (m : Nat) H', Leas n (brk n o) (brk n o') m → Kp [] H H' → Q (.int m) H')
def spTurns (tb : List Addr) : Sp := fun vs H Q _ => ∃ (p p' : Addr) (o o' : List Int) (n : Nat), vs = [.ref p, .ref p'] ∧ H p = some (.lst (o.map V.int)) ∧ H p' = some (.lst (o'.map V.int)) ∧ 3 ≤ n ∧ n ≤ 40 ∧ Stand n o ∧ Stand n o' ∧ Tabs tb H ∧
  (nB o n ≠ nB o' n → ∀ H', Kp [] H H' → Q .non H') ∧ (nB o n = nB o' n → ∀ m k cs q H', bst n (brk n o) (brk n o') (2 * nB o n + 1) = some (m, k) → TurnsTo n (brk n o) (glv n (brk n o') k) cs → H q = none → Kp [] H H' → H' q = some (.lst (cs.map V.int)) → Q (.ref q) H')
section
variable {P : Program} {w : World} {K : PySem.W.Frag} {mg : Str → Option Value} {base : Heap}
theorem ok_fewest_turns (T : Txt K mg base) : FnOk P w K mg base CX0 7 T.a_fewest_turns T.fd_fewest_turns ["order", "other"] (spFewest T.tbs) := by
  refine fnK_of0 T.F_fewest_turns sc_fewest_turns (fun vs H Q E h => ?_) (fun cdv A outer s H vs Q E hcd hr h => ?_)
  · obtain ⟨p, p', o, o', n, rfl, _⟩ := h
    rfl
  · obtain ⟨p, p', o, o', n, rfl, hp, hp', n3, n40, hS, hS', hT, q1, q2⟩ := h
    refine ⟨_, (pss_cons (ps_expr (pe_call (ok_check_orders T) (hr.mono (by decide)) rfl T.m_check_orders T.F_check_orders.kp T.b_check_orders .nil pass0 (pa_cons (pv 0) (pa_cons (pv 1) pa_nil))))
    (pss_cons (ps_set (i := 2) sc_fewest_turns.nd rfl (Or.inl rfl) (pe_call (ok_goals_in T) (hr.mono (by decide)) rfl T.m_goals_in T.F_goals_in.kp T.b_goals_in .nil pass0 (pa_cons (pv 0) (pa_cons (pv 1) pa_nil))))
    (pss_one (ps_ret (pe_ifExp (pt_cmpR op_isN (pv 2) pe_non (nomark _)) pe_non (pe_ix ix_tup (pv 2) pe_int (fun _ _ => rfl))))))), ?_⟩
    rw [show start ["order", "other", "told"] [.ref p, .ref p'] = [some (.ref p), some (.ref p'), none] from rfl]
    walk_at "go"
    refine ⟨p, p', o, o', n, rfl, hp, hp', n3, n40, hS, hS', fun H1 k1 => ?_⟩
    walk_at "go"
    refine ⟨p, p', o, o', n, rfl, k1.lst nin0 hp, k1.lst nin0 hp', n3, n40, hS, hS', k1.tabs hT, fun ne H2 k2 => ?_, fun eq m k r sp gp H2 eb r0 sp0 gp0 ne k2 er es eg => ?_⟩
    · walk_at "go"
      refine ⟨rfl, ?_⟩
      walk_at "go"
      refine g_kDY rfl ?_
      walk_at "go"
      exact q1 ne H2 (k1.trans k2)
    · walk_at "go"
      refine ⟨rfl, ?_⟩
      walk_at "go"
      refine g_kDX (fun z => nomatch z) ?_
      walk_at "go"
      exact q2 eq m H2 (bst_leas (brk_bks (by omega) hS) (brk_bks (by omega) hS') eq eb).1 (k1.trans k2)
theorem ok_turns (T : Txt K mg base) : FnOk P w K mg base CX0 7 T.a_turns T.fd_turns ["order", "other"] (spTurns T.tbs) := by
  refine fnK_of0 T.F_turns sc_turns (fun vs H Q E h => ?_) (fun cdv A outer s H vs Q E hcd hr h => ?_)
  · obtain ⟨p, p', o, o', n, rfl, _⟩ := h
    rfl
  · obtain ⟨p, p', o, o', n, rfl, hp, hp', n3, n40, hS, hS', hT, q1, q2⟩ := h
    have ln := hS.length
    refine ⟨_, (pss_cons (ps_expr (pe_call (ok_check_orders T) (hr.mono (by decide)) rfl T.m_check_orders T.F_check_orders.kp T.b_check_orders .nil pass0 (pa_cons (pv 0) (pa_cons (pv 1) pa_nil))))
    (pss_cons (ps_set (i := 2) sc_turns.nd rfl (Or.inl rfl) (pe_call (ok_goals_in T) (hr.mono (by decide)) rfl T.m_goals_in T.F_goals_in.kp T.b_goals_in .nil pass0 (pa_cons (pv 0) (pa_cons (pv 1) pa_nil))))
    (pss_cons (ps_if (pt_cmpR op_isN (pv 2) pe_non (nomark _))
      (pss_one (ps_ret pe_non))
      pss_nil)
    (pss_cons (ps_set (i := 3) sc_turns.nd rfl (Or.inr rfl) (pe_callB cr_len (by rfl) T.n_len (by decide +kernel) (pa_cons (pv 0) pa_nil)))
    (pss_cons (ps_asg (pe_slice sl_tup (pv 2) (po_some pe_int) po_none) (pg_tup rfl (pgs_cons (pg_name (i := 4) sc_turns.nd rfl (Or.inl rfl)) (pgs_cons (pg_name (i := 5) sc_turns.nd rfl (Or.inl rfl)) pgs_nil))))
    (pss_cons (ps_set (i := 6) sc_turns.nd rfl (Or.inl rfl) (pe_lst pa_nil))
    (pss_cons (ps_while PassesOwn.never (pt_cmpR (op_neD hr.units) (pv 4) (pv 5) (nomark _))
      (pss_one (ps_for PassesOwn.never rfl (pi_enum (by rfl) T.n_enumerate (pa_cons (pv 5) pa_nil)) (pg_tup rfl (pgs_cons (pg_name (i := 7) sc_turns.nd rfl (Or.inl rfl)) (pgs_cons (pg_name (i := 8) sc_turns.nd rfl (Or.inl rfl)) pgs_nil)))
        (pss_cons (ps_set (i := 9) sc_turns.nd rfl (Or.inl rfl) (pe_op op_subB (pe_cmpR op_lt (pe_ix ix_list (pv 4) (pv 7) (fun _ _ => rfl)) (pv 8) (nomark _)) (pe_cmpR op_gt (pe_ix ix_list (pv 4) (pv 7) (fun _ _ => rfl)) (pv 8) (nomark _))))
        (pss_cons (ps_setLc (i := 10) (own := [("spot", 11)]) (g := gName 11) (tt := tYes) rfl sc_turns.nd rfl rfl (sw_true rfl rfl rfl (by decide +kernel)) (pi_list (pv 4)) (blkOk_by (N := ["order", "other", "plan", "count", "spots", "goals", "told", "at", "goal", "step", "taken", "spot"]) (sc := defScope s_turns) (by decide +kernel)) (fun _ _ _ _ _ => (pg_name (i := 11) sc_turns.nd rfl (Or.inl rfl))) (fun _ _ _ _ _ => pts_nil) (fun _ _ _ _ _ => (pe_op op_mod (pv 11) (pv 3))))
        (pss_one (ps_if (PW.pt (pw_and (pt_cmpR op_ne (pv 9) pe_int (nomark _)) (pw_and1 (pt_cmpR op_notIn_seq (pe_op op_mod (pe_op op_add (pe_ix ix_list (pv 4) (pv 7) (fun _ _ => rfl)) (pv 9)) (pv 3)) (pv 10) (by rfl)))))
          (pss_cons (ps_expr (pe_bm PySem.F.plainAttrs_list PySem.F.slot_list_append PySem.F.type_list_append mt_append (pv 6) (pa_cons (pe_op op_add (pe_op op_mod (pe_op op_sub (pe_callB (cr_max2 rfl) (by rfl) T.n_max (by decide +kernel) (pa_cons (pe_ix ix_list (pv 4) (pv 7) (fun _ _ => rfl)) (pa_cons (pe_op op_add (pe_ix ix_list (pv 4) (pv 7) (fun _ _ => rfl)) (pv 9)) pa_nil))) pe_int) (pv 3)) pe_int) pa_nil)))
          (pss_one (ps_augS (pv 4) (pv 7) pget_list (pv 9) ip_add set_list)))
          pss_nil)))))))
    (pss_one (ps_ret (pv 6)))))))))), ?_⟩
    rw [show start ["order", "other", "plan", "count", "spots", "goals", "told", "at", "goal", "step", "taken", "spot"] [.ref p, .ref p'] = [some (.ref p), some (.ref p'), none, none, none, none, none, none, none, none, none, none] from rfl]
    walk_at "go"
    refine ⟨p, p', o, o', n, rfl, hp, hp', n3, n40, hS, hS', fun H1 k1 => ?_⟩
    walk_at "go"
    refine ⟨p, p', o, o', n, rfl, k1.lst nin0 hp, k1.lst nin0 hp', n3, n40, hS, hS', k1.tabs hT, fun ne H2 k2 => ?_, fun eq m k r sp gp H2 eb r0 sp0 gp0 ne k2 er es eg => ?_⟩
    · walk_at "go"
      refine ⟨rfl, ?_⟩
      walk_at "go"
      refine g_kDY rfl ?_
      walk_at "go"
      exact q1 ne H2 (k1.trans k2)
    · have r0 := k1.free r0
      have sp0 := k1.free sp0
      have gp0 := k1.free gp0
      have hk := k1.trans k2
      clear k1 k2
      have hp2 := hk.lst nin0 hp
      have q2 := q2 eq m k
      have hB := brk_bks (by omega) hS
      have hB' := brk_bks (by omega) hS'
      unfold nB at eq eb q2
      generalize brk n o = A at *
      generalize brk n o' = B at *
      walk_at "go"
      refine ⟨rfl, ?_⟩
      walk_at "go"
      refine g_kDX (fun z => nomatch z) ?_
      walk_at "go"
      rw [List.length_map, ln]
      walk_at "go"
      refine g_slT er (fun z => absurd z.1 (by show ¬ (1 = 0); decide)) fun q hq => ?_
      have hkq := hk.put (o := .tup (cutV [.int (m : Nat), .ref sp, .ref gp] (some 1) none)) (hk.free hq)
      have eq2 : cutV [.int (m : Nat), .ref sp, .ref gp] (some 1) none = [.ref sp, .ref gp] := rfl
      rw [eq2]
      have esq : upd H2 q (.tup [.ref sp, .ref gp]) sp = some (.lst (A.map V.int)) := by rw [upd_ne (ne_of_none es hq)]; exact es
      have egq : upd H2 q (.tup [.ref sp, .ref gp]) gp = some (.lst ((glv n B k).map V.int)) := by rw [upd_ne (ne_of_none eg hq)]; exact eg
      rw [eq2] at hkq
      clear eq2
      walk_at "go"
      rename_i tp htp
      have hk3 := hkq.put (o := .lst []) (hkq.free htp)
      have tp0 := hkq.free htp
      have tsp : tp ≠ sp := fun z => by rw [z, esq] at htp; cases htp
      have tgp : tp ≠ gp := fun z => by rw [z, egq] at htp; cases htp
      have es3 : upd (upd H2 q (.tup [.ref sp, .ref gp])) tp (.lst []) sp = some (.lst (A.map V.int)) := by rw [upd_ne (Ne.symm tsp)]; exact esq
      have eg3 : upd (upd H2 q (.tup [.ref sp, .ref gp])) tp (.lst []) gp = some (.lst ((glv n B k).map V.int)) := by rw [upd_ne (Ne.symm tgp)]; exact egq
      have et3 : upd (upd H2 q (.tup [.ref sp, .ref gp])) tp (.lst []) tp = some (.lst (([] : List Int).map V.int)) := upd_same
      generalize upd (upd H2 q (.tup [.ref sp, .ref gp])) tp (.lst []) = H3 at *
      clear esq egq hkq htp hq hk
      have hAn := hB.lt
      have hm : farL A (glv n B k) ≤ 1600 := by
        obtain ⟨l1, l2⟩ := bst_leas hB hB' eq eb
        have := l1.2 0
        rw [glv_zero] at this
        have := farL_bound hB.mem hB'.mem
        have h40 : A.length * n ≤ 40 * 40 := Nat.mul_le_mul (by have := hB.lt; omega) n40
        omega
      have gl0 : (glv n B k).length = A.length := by rw [glv_len]; omega
      refine g_whl (fun σ' G => ∃ (j : Nat) (x7 x8 x9 x10 : Option V), σ' = [some (.ref p), some (.ref p'), some (.ref r), some (.int n), some (.ref sp), some (.ref gp), some (.ref tp), x7, x8, x9, x10, none] ∧ Kp [] H G ∧
          G sp = some (.lst ((it (pass n (glv n B k)) j (A, [])).1.map V.int)) ∧ G tp = some (.lst ((it (pass n (glv n B k)) j (A, [])).2.map V.int)) ∧ G gp = some (.lst ((glv n B k).map V.int)) ∧ ∀ i < j, (it (pass n (glv n B k)) i (A, [])).1 ≠ glv n B k)
        (fun _ G => farL (unI (G sp)) (glv n B k)) ⟨0, _, _, _, _, rfl, hk3, es3, et3, eg3, fun i hi => absurd hi (by omega)⟩ ?_
      clear hk3 es3 et3 eg3
      rintro σ' G ⟨j, x7, x8, x9, x10, rfl, hK, hs, ht, hg, hj⟩
      have hTI := ti_it (l := k) hB hB' eq j
      obtain ⟨tiP, tiL⟩ := pass_ti hB' hTI
      have hlen : (it (pass n (glv n B k)) j (A, [])).1.length = A.length := by
        obtain ⟨A', k', _, h2, h3, _⟩ := hTI
        rw [h3, glv_len, h2, glv_len, eq]
      rw [show farL (unI (G sp)) (glv n B k) = farL (it (pass n (glv n B k)) j (A, [])).1 (glv n B k) by rw [hs, unI_ints]]
      have hsucc : pass n (glv n B k) (it (pass n (glv n B k)) j (A, [])) = it (pass n (glv n B k)) (j + 1) (A, []) := (it_succ _ _ _).symm
      have hfar0 : (it (pass n (glv n B k)) j (A, [])).2.length ≤ farL A (glv n B k) := by
        obtain ⟨_, _, _, _, _, _, _, h6⟩ := hTI
        omega
      have hres : (it (pass n (glv n B k)) j (A, [])).1 = glv n B k → TurnsTo n A (glv n B k) (it (pass n (glv n B k)) j (A, [])).2 := fun e => ⟨j, e, hj, rfl⟩
      have hj' : (it (pass n (glv n B k)) j (A, [])).1 ≠ glv n B k → ∀ i < j + 1, (it (pass n (glv n B k)) i (A, [])).1 ≠ glv n B k := fun e i hi => by
        rcases Nat.lt_or_ge i j with z | z
        · exact hj i z
        · obtain rfl : i = j := by omega
          exact e
      clear hTI hj tiP
      generalize it (pass n (glv n B k)) j (A, []) = st at *
      walk_at "go"
      refine g_neI2 hs hg ?_
      walk_at "go"
      refine g_kN (fun e => ?_) (fun e => ?_)
      · walk_at "go"
        refine g_it (walk_enum (xs := (glv n B k).map V.int)) (fun i σ' G' => ∃ (x7 x8 x9 x10 : Option V), σ' = [some (.ref p), some (.ref p'), some (.ref r), some (.int n), some (.ref sp), some (.ref gp), some (.ref tp), x7, x8, x9, x10, none] ∧ Kp [] H G' ∧
            G' sp = some (.lst (((List.range i).foldl (stp n (glv n B k)) st).1.map V.int)) ∧ G' tp = some (.lst (((List.range i).foldl (stp n (glv n B k)) st).2.map V.int)) ∧ G' gp = some (.lst ((glv n B k).map V.int)))
          ⟨_, _, _, _, rfl, hK, hs, ht, hg⟩ (fun i σ' G' _ h => by obtain ⟨_, _, _, _, _, _, _, _, h⟩ := h; exact SqL.of h) ?_ ?_
        · clear hK hs ht hg
          rintro i x σ' G1 G2 hi ⟨x7, x8, x9, x10, rfl, hK, hs, ht, hg⟩ ⟨Tp, xi, y, rfl, hTp, rfl, hx1, hx2⟩
          cases hx1
          have hx2 : ((glv n B k).map V.int)[i]? = some y := hx2
          rw [List.getElem?_map] at hx2
          obtain ⟨z, hz, rfl⟩ := Option.map_eq_some_iff.mp hx2
          rw [List.length_map, gl0] at hi
          have lc := stps_len n (glv n B k) st i
          have lt := stps_told n (glv n B k) st i
          have esucc : (List.range (i + 1)).foldl (stp n (glv n B k)) st = stp n (glv n B k) ((List.range i).foldl (stp n (glv n B k)) st) i := by rw [List.range_succ, List.foldl_append]; rfl
          rw [esucc]
          generalize (List.range i).foldl (stp n (glv n B k)) st = c at *
          clear esucc
          have hx : c.1[i]? = some c.1[i] := List.getElem?_eq_getElem (by omega)
          generalize c.1[i]'(by omega) = x at hx
          rw [stp_eq hx hz]
          have at1 : atI (c.1.map V.int) (i : Int) = some (.int x) := atI_of rfl (by rw [List.getElem?_map, hx]; rfl)
          have spT : sp ≠ Tp := ne_of_none hs hTp
          have tpT : tp ≠ Tp := ne_of_none ht hTp
          have gpT : gp ≠ Tp := ne_of_none hg hTp
          have hK2 : Kp [] H (upd G1 Tp (.tup [.int (i : Int), .int z])) := hK.put (hK.free hTp)
          have hs2 : (upd G1 Tp (.tup [.int (i : Int), .int z])) sp = _ := (upd_ne spT).trans hs
          have ht2 : (upd G1 Tp (.tup [.int (i : Int), .int z])) tp = _ := (upd_ne tpT).trans ht
          have hg2 : (upd G1 Tp (.tup [.int (i : Int), .int z])) gp = _ := (upd_ne gpT).trans hg
          have hT2 : (upd G1 Tp (.tup [.int (i : Int), .int z])) Tp = some (.tup [.int (i : Int), .int z]) := upd_same
          clear hK hs ht hg spT tpT gpT
          generalize upd G1 Tp (.tup [.int (i : Int), .int z]) = G3 at *
          clear hTp
          walk_at "go"
          generalize bi (decide (x < z)) - bi (decide (x > z)) = e'
          walk_at "go"
          refine g_lc (walk_list (xs := c.1.map V.int)) (w0 := [some (.ref p), some (.ref p'), some (.ref r), some (.int n), some (.ref sp), some (.ref gp), some (.ref tp), some (.int i), some (.int z), some (.int e'), x10, none]) rfl fun D hD => ⟨fun j G' => G' D = some (.lst (((c.1.take j).map (· % (n : Int))).map V.int)) ∧ Kp [] G3 G', ⟨upd_same, (Kp.refl _ _).put hD⟩, fun _ _ _ h => SqL.of (h.2.lst nin0 hs2), ?_, ?_⟩
          · rintro j' x' G4 G5 hj' ⟨hG4, hK4⟩ ⟨rfl, hx'⟩
            rw [List.getElem?_map] at hx'
            obtain ⟨u, hu, rfl⟩ := Option.map_eq_some_iff.mp hx'
            rw [List.length_map] at hj'
            walk_at "go"
            refine g_kLg rfl ?_
            walk_at "go"
            refine g_kLe hG4 (triv_szl (by rw [List.length_map, List.length_map, List.length_take]; omega)) ⟨?_, hK4.put hD⟩
            rw [take_succ' hu, List.map_append, List.map_append]
            exact upd_same
          · rintro G4 ⟨hG4, hK4⟩
            rw [List.length_map, List.take_of_length_le (Nat.le_refl _)] at hG4
            have hs4 := hK4.lst nin0 hs2
            have ht4 := hK4.lst nin0 ht2
            have hg4 := hK4.lst nin0 hg2
            have hK5 := hK2.trans hK4
            clear hs2 ht2 hg2 hK2 hT2
            walk_at "go"
            refine g_kN (fun n1 => ?_) (fun n1 => ?_)
            · walk_at "go"
              refine g_niJ hG4 ?_
              walk_at "go"
              refine g_kN (fun n2 => ?_) (fun n2 => ?_)
              · rw [if_pos ⟨n1, n2⟩]
                walk_at "go"
                rw [max_if]
                refine g_append ht4 (triv_szl (by rw [List.length_map]; omega)) ?_
                have tpsp : sp ≠ tp := Ne.symm tsp
                have hs6 : upd G4 tp (.lst (c.2.map V.int ++ [.int ((max x (x + e') - 1) % n + 1)])) sp = some (.lst (c.1.map V.int)) := (upd_ne tpsp).trans hs4
                have ht6 : upd G4 tp (.lst (c.2.map V.int ++ [.int ((max x (x + e') - 1) % n + 1)])) tp = some (.lst ((c.2 ++ [wrp n (max x (x + e'))]).map V.int)) := by rw [upd_same, List.map_append]; rfl
                have hg6 : upd G4 tp (.lst (c.2.map V.int ++ [.int ((max x (x + e') - 1) % n + 1)])) gp = some (.lst ((glv n B k).map V.int)) := (upd_ne (Ne.symm tgp)).trans hg4
                have hK6 : Kp [] H (upd G4 tp (.lst (c.2.map V.int ++ [.int ((max x (x + e') - 1) % n + 1)]))) := hK5.put tp0
                generalize upd G4 tp (.lst (c.2.map V.int ++ [.int ((max x (x + e') - 1) % n + 1)])) = G6 at *
                clear hs4 ht4 hg4 hK5 hG4 hK4
                walk_at "go"
                refine g_setL (xs := c.1.map V.int) (n := i) hs6 (ixN_of rfl (by rw [List.length_map]; omega)) ?_
                walk_at "go"
                refine ⟨_, _, _, _, rfl, hK6.put sp0, ?_, ?_, ?_⟩
                · rw [← List.map_set]; exact upd_same
                · exact (upd_ne tsp).trans ht6
                · exact (upd_ne ne).trans hg6
              · rw [if_neg (fun y => y.2 n2)]
                walk_at "go"
                exact ⟨_, _, _, _, rfl, hK5, hs4, ht4, hg4⟩
            · rw [if_neg (fun y => y.1 n1)]
              walk_at "go"
              exact ⟨_, _, _, _, rfl, hK5, hs4, ht4, hg4⟩
        · rintro σ' G' ⟨x7, x8, x9, x10, rfl, hK', hs', ht', hg'⟩
          rw [List.length_map] at hs' ht'
          have ep : (List.range (glv n B k).length).foldl (stp n (glv n B k)) st = pass n (glv n B k) st := rfl
          rw [ep] at hs' ht'
          walk_at "go"
          refine ⟨⟨j + 1, _, _, _, _, rfl, hK', by rw [← hsucc]; exact hs', by rw [← hsucc]; exact ht', hg', hj' e⟩, ?_⟩
          rw [hs', unI_ints]
          exact tiL e
      · walk_at "go"
        exact q2 st.2 tp G eb (hres e) tp0 hK ht
end
end Ap


/-! _law_breaks, _law_turned, _law_least of k30. -/
namespace Ap
open PySem L2 PySem.Spec PyProof.Rows
def spTnd : Sp := fun vs H Q _ => ∃ (p : Addr) (A : List Int) (c : Int) (n : Nat), vs = [.ref p, .int c, .int n] ∧ H p = some (.lst (A.map V.int)) ∧ Bks n A ∧ n ≤ 40 ∧ c ∈ up n ∧
  (tnd n A c = none → ∀ H', Kp [] H H' → Q .non H') ∧ ∀ A', tnd n A c = some A' → ∀ q H', H q = none → Kp [] H H' → H' q = some (.lst (A'.map V.int)) → Q (.ref q) H'
def spLeast : Sp := fun vs H Q _ => ∃ (p p' : Addr) (F A : List Int) (n m : Nat), vs = [.ref p, .ref p', .int n] ∧ H p = some (.lst (F.map V.int)) ∧ H p' = some (.lst (A.map V.int)) ∧ Bks n F ∧ Bks n A ∧ F.length = A.length ∧ n ≤ 40 ∧ Leas n F A m ∧
  ∀ H', Kp [] H H' → Q (.int m) H'
theorem farL_take {xs ys : List Int} {i : Nat} {x y : Int} (hx : xs[i]? = some x) (hy : ys[i]? = some y) : farL (xs.take (i + 1)) (ys.take (i + 1)) = farL (xs.take i) (ys.take i) + (x - y).natAbs := by
  unfold farL
  rw [List.take_add_one, List.take_add_one, hx, hy]
  have lx := (List.getElem?_eq_some_iff.mp hx).1
  have ly := (List.getElem?_eq_some_iff.mp hy).1
  rw [List.zipWith_append (by rw [List.length_take, List.length_take]; omega), List.sum_append]
  rfl
theorem sorted_le_lt : ∀ {l : List Int}, l.Pairwise (· ≤ ·) → l.Nodup → l.Pairwise (· < ·)
  | [], _, _ => .nil
  | a :: l, h, nd => by
    obtain ⟨h1, h2⟩ := List.pairwise_cons.mp h
    obtain ⟨n1, n2⟩ := List.nodup_cons.mp nd
    exact List.pairwise_cons.mpr ⟨fun b hb => by
      have := h1 b hb
      have : a ≠ b := fun z => n1 (z ▸ hb)
      omega, sorted_le_lt h2 n2⟩
theorem g_catJ {H : Hp} {Q : VK} {l b : Addr} {xs zs : List Int} (e : H l = some (.lst (xs.map V.int))) (e2 : H b = some (.lst (zs.map V.int))) (h : xs.length + zs.length ≤ 1000000)
    (k : ∀ p G, H p = none → Kp [] H G → G p = some (.lst ((xs ++ zs).map V.int)) → Q (.ref p) G) : rCat (.ref l) (.ref b) H Q :=
  g_cat e e2 (by rw [List.length_map, List.length_map]; exact triv_sz h) fun p hp => k p _ hp (Kp.new hp) (by rw [List.map_append]; exact upd_same)
section
variable {P : Program} {w : World} {K : PySem.W.Frag} {mg : Str → Option Value} {base : Heap}
theorem ok_Lbreaks (T : Txt K mg base) : FnG P w K mg base CX0 1 T.a_Lbreaks T.fd_Lbreaks ["_law_order"] spBrk := by
  refine fnG_of0 T.F_Lbreaks sc_Lbreaks (fun vs H Q E h => ?_) (fun cdv A outer s H vs Q E hcd hr gd h => ?_)
  · obtain ⟨p, o, n, rfl, _⟩ := h
    rfl
  · obtain ⟨p, o, n, rfl, hp, n1, n40, hS, q⟩ := h
    have ln := hS.length
    refine ⟨_, (pss_cons (ps_set (i := 1) sc_Lbreaks.nd rfl (Or.inr rfl) (pe_callB cr_len (by rfl) T.n_len (by decide +kernel) (pa_cons (pv 0) pa_nil)))
    (pss_one (ps_ret (pe_lc (own := [("_law_call", 2)]) (g := gName 2) rfl sc_Lbreaks.nd (pi_range2 (by rfl) T.n_range (pa_cons pe_int (pa_cons (pe_op op_add (pv 1) pe_int) pa_nil))) (blkOk_by (N := ["_law_order", "_law_many", "_law_call"]) (sc := defScope s_Lbreaks) (by decide +kernel)) (fun _ _ _ _ _ => (pg_name (i := 2) sc_Lbreaks.nd rfl (Or.inl rfl))) (fun _ _ _ _ _ => (pts_one (pt_cmpR op_gt (show PE _ _ (tBM K "list" (rIndex K) _ _) from pe_bm PySem.F.plainAttrs_list PySem.F.slot_list_index PySem.F.type_list_index mt_index (pv 0) (pa_cons (pv 2) pa_nil)) (show PE _ _ (tBM K "list" (rIndex K) _ _) from pe_bm PySem.F.plainAttrs_list PySem.F.slot_list_index PySem.F.type_list_index mt_index (pv 0) (pa_cons (pe_op op_add (pe_op op_mod (pv 2) (pv 1)) pe_int) pa_nil)) (nomark _)))) (fun _ _ _ _ _ => (pv 2)))))), ?_⟩
    rw [show start ["_law_order", "_law_many", "_law_call"] [.ref p] = [some (.ref p), none, none] from rfl]
    walk_at "go"
    rw [List.length_map, ln]
    walk_at "go"
    rw [show ((n : Int) + 1 - 1).toNat = n by omega]
    refine g_lc walk_range (w0 := [some (.ref p), some (.int n), none]) rfl fun D hD => ⟨fun i G => G D = some (.lst ((brkTo n o i).map V.int)) ∧ Kp [] H G, ⟨upd_same, (Kp.refl _ _).put hD⟩, fun _ _ _ _ => trivial, ?_, ?_⟩
    · rintro i x G G' hi ⟨hG, hKG⟩ ⟨rfl, rfl⟩
      have hi : i < n := hi
      have cin : (1 + (i : Int)) ∈ up n := up_mem.mpr (by omega)
      have din := nx_mem (n := n) (c := 1 + (i : Int)) n1
      have hpG := hKG.lst nin0 hp
      walk_at "go"
      refine g_kLg rfl ?_
      walk_at "go"
      refine g_idxJ hpG (hS.mem.mpr cin) ?_
      walk_at "go"
      rw [show (1 + (i : Int)) % (n : Int) + 1 = nx n (1 + (i : Int)) from rfl]
      refine g_idxJ hpG (hS.mem.mpr din) ?_
      walk_at "go"
      refine g_kD (fun e => ?_) (fun e => ?_)
      · walk_at "go"
        refine g_kLe hG (triv_szl (by have := brkTo_len n o i; rw [List.length_map]; omega)) ⟨?_, hKG.put hD⟩
        rw [brkTo_succ hi, if_pos (by omega), List.map_append]
        exact upd_same
      · refine ⟨?_, hKG⟩
        rw [brkTo_succ hi, if_neg (by omega), List.append_nil]
        exact hG
    · rintro G ⟨hG, hKG⟩
      rw [brkTo_all] at hG
      exact q D G hD hKG hG
theorem ok_Lturned (T : Txt K mg base) : FnG P w K mg base CX0 1 T.a_Lturned T.fd_Lturned ["_law_some", "_law_call", "_law_many"] spTnd := by
  refine fnG_of0 T.F_Lturned sc_Lturned (fun vs H Q E h => ?_) (fun cdv A outer s H vs Q E hcd hr gd h => ?_)
  · obtain ⟨p, A, c, n, rfl, _⟩ := h
    rfl
  · obtain ⟨p, A, c, n, rfl, hp, hA, n40, hc, q1, q2⟩ := h
    have hAl := hA.lt
    have hAp := hA.pos
    refine ⟨_, (pss_cons (ps_set (i := 3) sc_Lturned.nd rfl (Or.inl rfl) (pe_op op_add (pe_op op_mod (pe_op op_sub (pv 1) pe_int) (pv 2)) pe_int))
    (pss_cons (ps_if (pt_cmpR op_eq (pe_cmpR op_in_seq (pv 1) (pv 0) (by rfl)) (pe_cmpR op_in_seq (pv 3) (pv 0) (by rfl)) (nomark _))
      (pss_one (ps_ret pe_non))
      pss_nil)
    (Evl.pss_cut (ps_asg (pe_ifExp (pt_cmpR op_in_seq (pv 1) (pv 0) (by rfl)) (pe_tup (pa_cons (pv 1) (pa_cons (pv 3) pa_nil))) (pe_tup (pa_cons (pv 3) (pa_cons (pv 1) pa_nil)))) (pg_tup rfl (pgs_cons (pg_name (i := 4) sc_Lturned.nd rfl (Or.inr rfl)) (pgs_cons (pg_name (i := 5) sc_Lturned.nd rfl (Or.inl rfl)) pgs_nil))))
    (pss_one (ps_ret (pe_callB cr_sortedI (by rfl) T.n_sorted (by decide +kernel) (pa_cons (pe_op op_cat (pe_lc (own := [("_law_one", 6)]) (g := gName 6) rfl sc_Lturned.nd (pi_list (pv 0)) (blkOk_by (N := ["_law_some", "_law_call", "_law_many", "_law_ahead", "_law_gone", "_law_come", "_law_one"]) (sc := defScope s_Lturned) (by decide +kernel)) (fun _ _ _ _ _ => (pg_name (i := 6) sc_Lturned.nd rfl (Or.inl rfl))) (fun _ _ _ _ _ => (pts_one (pt_cmpR op_ne (pv 6) (pv 4) (nomark _)))) (fun _ _ _ _ _ => (pv 6))) (pe_lst (pa_cons (pv 5) pa_nil))) pa_nil))))))), ?_⟩
    rw [show start ["_law_some", "_law_call", "_law_many", "_law_ahead", "_law_gone", "_law_come", "_law_one"] [.ref p, .int c, .int n] = [some (.ref p), some (.int c), some (.int n), none, none, none, none] from rfl]
    walk_at "go"
    rw [show (c - 2) % (n : Int) + 1 = wrp n (c - 1) by unfold wrp; rw [show c - 1 - 1 = c - 2 by omega]]
    refine g_inJ hp ?_
    walk_at "go"
    refine g_inJ hp ?_
    walk_at "go"
    refine g_eq rfl ?_
    rw [eq_ddJ]
    walk_at "go"
    refine g_kD (fun e => ?_) (fun e => ?_)
    · walk_at "go"
      exact q1 (if_pos e) H (Kp.refl _ _)
    · have ht : tnd n A c = _ := if_neg e
      walk_at "go"
      refine g_cut (fun σ' G => ∃ u, σ' = [some (.ref p), some (.int c), some (.int n), some (.int (wrp n (c - 1))), some (.int (gonC n A c)), some (.int (comC n A c)), u] ∧ Kp [] H G) ?_ ?_
      · unfold gonC comC
        walk_at "go"
        refine g_inJ hp ?_
        walk_at "go"
        refine g_kD (fun e2 => ?_) (fun e2 => ?_)
        · rw [if_pos e2, if_pos e2]
          walk_at "go"
          rename_i tp htp
          exact ⟨_, rfl, (Kp.refl _ _).put htp⟩
        · rw [if_neg e2, if_neg e2]
          walk_at "go"
          rename_i tp htp
          exact ⟨_, rfl, (Kp.refl _ _).put htp⟩
      rintro σ' G ⟨u, rfl, hK⟩
      have q2 := q2 _ ht
      have hco : comC n A c ∉ A := by
        unfold comC
        split
        · exact fun y => e ⟨fun _ => y, fun _ => by assumption⟩
        · assumption
      have hcu : comC n A c ∈ up n := by
        unfold comC
        split
        · exact up_mem.mpr (wrp_mem (by omega) _)
        · exact hc
      generalize gonC n A c = go at *
      generalize comC n A c = co at *
      have hpG := hK.lst nin0 hp
      walk_at "go"
      refine g_lc (walk_list (xs := A.map V.int)) (w0 := [some (.ref p), some (.int c), some (.int n), some (.int (wrp n (c - 1))), some (.int go), some (.int co), none]) rfl fun D hD => ⟨fun j G' => G' D = some (.lst (((A.take j).filter fun x => decide (x ≠ go)).map V.int)) ∧ Kp [] G G', ⟨upd_same, (Kp.refl _ _).put hD⟩, fun _ _ _ h => SqL.of (h.2.lst nin0 hpG), ?_, ?_⟩
      · rintro j x G4 G5 hj ⟨hG4, hK4⟩ ⟨rfl, hx⟩
        rw [List.getElem?_map] at hx
        obtain ⟨z, hz, rfl⟩ := Option.map_eq_some_iff.mp hx
        rw [List.length_map] at hj
        walk_at "go"
        refine g_kLg rfl ?_
        walk_at "go"
        have et : (A.take (j + 1)).filter (fun x => decide (x ≠ go)) = (A.take j).filter (fun x => decide (x ≠ go)) ++ if decide (z ≠ go) = true then [z] else [] := by rw [take_succ' hz, List.filter_append, List.filter_cons, List.filter_nil]
        refine g_kN (fun e3 => ?_) (fun e3 => ?_)
        · rw [if_pos (decide_eq_true e3)] at et
          walk_at "go"
          refine g_kLe hG4 (triv_szl (by have := List.length_filter_le (fun x => decide (x ≠ go)) (A.take j); rw [List.length_take] at this; rw [List.length_map]; omega)) ⟨?_, hK4.put hD⟩
          rw [et, List.map_append]
          exact upd_same
        · rw [if_neg (by rw [decide_eq_false (fun y => y e3)]; exact Bool.false_ne_true), List.append_nil] at et
          exact ⟨by rw [et]; exact hG4, hK4⟩
      · rintro G4 ⟨hG4, hK4⟩
        rw [List.length_map, List.take_of_length_le (Nat.le_refl _)] at hG4
        walk_at "go"
        rename_i sl hsl
        have slD : D ≠ sl := ne_of_none hG4 hsl
        have hK5 : Kp [] G (upd G4 sl (.lst [.int co])) := hK4.put (hK4.free hsl)
        have e1 : upd G4 sl (.lst [.int co]) D = _ := (upd_ne slD).trans hG4
        have e2 : upd G4 sl (.lst [.int co]) sl = some (.lst ([co].map V.int)) := upd_same
        have lf := List.length_filter_le (fun x => decide (x ≠ go)) A
        refine g_catJ e1 e2 (by show _ + 1 ≤ _; omega) fun r G6 hr hK6 e6 => ?_
        walk_at "go"
        refine ⟨r, _, rfl, SqL.of e6, fun ns' p2 perm srt hp2 => ?_⟩
        have hK7 : Kp [] H (upd G6 p2 (.lst (ns'.map V.int))) := (hK.trans (hK5.trans hK6)).put ((hK.trans (hK5.trans hK6)).free hp2)
        have nA : A.Nodup := hA.asc.imp (fun h => by omega)
        have nd : ns'.Nodup := perm.nodup_iff.mpr (List.nodup_append.mpr ⟨nA.filter _, List.nodup_cons.mpr ⟨List.not_mem_nil, List.nodup_nil⟩, fun x hx y hy z => by
          rw [List.mem_singleton.mp hy] at z
          exact hco (z ▸ (List.mem_filter.mp hx).1)⟩)
        have en : ns' = (up n).filter fun x => decide (x = co ∨ (x ≠ go ∧ x ∈ A)) := asc_ext (sorted_le_lt srt nd) (filter_asc n _) fun x => by
          rw [perm.mem_iff, List.mem_append, List.mem_filter, List.mem_singleton, List.mem_filter, decide_eq_true_eq, decide_eq_true_eq]
          constructor
          · rintro (⟨h1, h2⟩ | h)
            · exact ⟨up_mem.mpr (hA.mem x h1), .inr ⟨h2, h1⟩⟩
            · exact ⟨h ▸ hcu, .inl h⟩
          · rintro ⟨_, h | ⟨h1, h2⟩⟩
            · exact .inr h
            · exact .inl ⟨h2, h1⟩
        rw [← en] at q2
        exact q2 p2 _ ((hK.trans (hK5.trans hK6)).free hp2) hK7 upd_same
theorem ok_Lleast (T : Txt K mg base) : FnG P w K mg base CX0 1 T.a_Lleast T.fd_Lleast ["_law_first", "_law_last", "_law_many"] spLeast := by
  refine fnG_of0 T.F_Lleast sc_Lleast (fun vs H Q E h => ?_) (fun cdv A outer s H vs Q E hcd hr gd h => ?_)
  · obtain ⟨p, p', F, A, n, m, rfl, _⟩ := h
    rfl
  · obtain ⟨p, p', F, B, n, m, rfl, hp, hp', hF, hB, hl, n40, hL, q⟩ := h
    have hFl := hF.lt
    have hFp := hF.pos
    refine ⟨_, (pss_cons (ps_set (i := 3) sc_Lleast.nd rfl (Or.inl rfl) (pe_callB cr_len (by rfl) T.n_len (by decide +kernel) (pa_cons (pv 0) pa_nil)))
    (pss_cons (ps_set (i := 4) sc_Lleast.nd rfl (Or.inl rfl) pe_non)
    (pss_cons (ps_for PassesOwn.never rfl (pi_range2 (by rfl) T.n_range (pa_cons (pe_op op_sub pe_int (pv 3)) (pa_cons (pe_op op_add (pv 3) pe_int) pa_nil))) (pg_name (i := 5) sc_Lleast.nd rfl (Or.inl rfl))
      (pss_cons (ps_set (i := 6) sc_Lleast.nd rfl (Or.inl rfl) pe_int)
      (pss_cons (ps_for PassesOwn.never rfl (pi_enum (by rfl) T.n_enumerate (pa_cons (pv 0) pa_nil)) (pg_tup rfl (pgs_cons (pg_name (i := 7) sc_Lleast.nd rfl (Or.inl rfl)) (pgs_cons (pg_name (i := 8) sc_Lleast.nd rfl (Or.inl rfl)) pgs_nil)))
        (pss_cons (ps_set (i := 9) sc_Lleast.nd rfl (Or.inl rfl) (pe_op op_add (pv 7) (pv 5)))
        (pss_cons (ps_set (i := 10) sc_Lleast.nd rfl (Or.inl rfl) (pe_op op_add (pe_ix ix_list (pv 1) (pe_op op_mod (pv 9) (pv 3)) (fun _ _ => rfl)) (pe_op op_mul (pv 2) (pe_op op_fdiv (pv 9) (pv 3)))))
        (pss_one (ps_set (i := 6) sc_Lleast.nd rfl (Or.inl rfl) (pe_op op_add (pv 6) (pe_callB call_abs (by rfl) T.n_abs (by decide +kernel) (pa_cons (pe_op op_sub (pv 8) (pv 10)) pa_nil))))))))
      (pss_one (ps_set (i := 4) sc_Lleast.nd rfl (Or.inl rfl) (pe_ifExp (PW.pt (pw_or (pt_cmpR op_isN (pv 4) pe_non (nomark _)) (pw_or1 (pt_cmpR op_lt (pv 6) (pv 4) (nomark _))))) (pv 6) (pv 4)))))))
    (pss_one (ps_ret (pv 4)))))), ?_⟩
    rw [show start ["_law_first", "_law_last", "_law_many", "_law_size", "_law_best", "_law_turn", "_law_far", "_law_at", "_law_one", "_law_spot", "_law_goal"] [.ref p, .ref p', .int n] = [some (.ref p), some (.ref p'), some (.int n), none, none, none, none, none, none, none, none] from rfl]
    walk_at "go"
    rw [List.length_map]
    walk_at "go"
    rw [show ((F.length : Int) + 1 - (0 - (F.length : Int))).toNat = 2 * F.length + 1 by omega]
    refine g_forR (fun i σ' G => ∃ (bv : V) (x5 x6 x7 x8 x9 x10 : Option V), σ' = [some (.ref p), some (.ref p'), some (.int n), some (.int F.length), some bv, x5, x6, x7, x8, x9, x10] ∧ Kp [] H G ∧ bv = match bst n F B i with | none => .non | some (m, _) => .int (m : Nat))
      ⟨_, _, _, _, _, _, _, rfl, Kp.refl _ _, rfl⟩ ?_ ?_
    · rintro i σ' G hi ⟨bv, x5, x6, x7, x8, x9, x10, rfl, hK, eb⟩
      have hpG := hK.lst nin0 hp
      have hp'G := hK.lst nin0 hp'
      have succ : bst n F B (i + 1) = bstep n F B (bst n F B i) (0 - (F.length : Int) + i) := by
        show bstep n F B (bst n F B i) (-(F.length : Int) + i) = _
        rw [Int.zero_sub]
      rw [succ]
      generalize 0 - (F.length : Int) + i = kk
      walk_at "go"
      refine g_it (walk_enum (xs := F.map V.int)) (fun j σ' G' => ∃ (x7 x8 x9 x10 : Option V), σ' = [some (.ref p), some (.ref p'), some (.int n), some (.int F.length), some bv, some (.int kk), some (.int (farL (F.take j) ((glv n B kk).take j) : Nat)), x7, x8, x9, x10] ∧ Kp [] G G')
        ⟨_, _, _, _, rfl, Kp.refl _ _⟩ (fun j σ' G' _ h => by obtain ⟨_, _, _, _, _, h⟩ := h; exact SqL.of (h.lst nin0 hpG)) ?_ ?_
      · rintro j x σ' G1 G2 hj ⟨x7, x8, x9, x10, rfl, hK1⟩ ⟨Tp, xi, y, rfl, hTp, rfl, hx1, hx2⟩
        cases hx1
        have hx2 : (F.map V.int)[j]? = some y := hx2
        rw [List.getElem?_map] at hx2
        obtain ⟨z, hz, rfl⟩ := Option.map_eq_some_iff.mp hx2
        rw [List.length_map] at hj
        have hK2 : Kp [] G (upd G1 Tp (.tup [.int (j : Int), .int z])) := hK1.put (hK1.free hTp)
        have hp2 := hK2.lst nin0 hp'G
        have hT2 : (upd G1 Tp (.tup [.int (j : Int), .int z])) Tp = some (.tup [.int (j : Int), .int z]) := upd_same
        generalize upd G1 Tp (.tup [.int (j : Int), .int z]) = G3 at *
        have b0 := Int.emod_nonneg ((j : Int) + kk) (b := F.length) (by omega)
        have b1 := Int.emod_lt_of_pos ((j : Int) + kk) (b := F.length) (by omega)
        obtain ⟨r, er⟩ : ∃ r : Nat, ((j : Int) + kk) % F.length = r := ⟨(((j : Int) + kk) % F.length).toNat, by omega⟩
        have hr : r < B.length := by omega
        have at1 : atI (B.map V.int) (((j : Int) + kk) % F.length) = some (.int B[r]) := atI_of (n := r) er (by rw [List.getElem?_map, List.getElem?_eq_getElem hr]; rfl)
        have el : lq n B (j + kk) = B[r] + n * (((j : Int) + kk) / F.length) := by
          unfold lq
          rw [← hl, er, show ((r : Int)).toNat = r by omega, List.getD_eq_getElem?_getD, List.getElem?_eq_getElem hr]
          rfl
        walk_at "go"
        rw [← el]
        refine ⟨_, rfl, ?_⟩
        walk_at "go"
        have ef : ((farL (F.take j) ((glv n B kk).take j) : Nat) : Int) + (if z - lq n B (j + kk) < 0 then -(z - lq n B (j + kk)) else z - lq n B (j + kk)) = (farL (F.take (j + 1)) ((glv n B kk).take (j + 1)) : Nat) := by
          rw [farL_take hz (glv_get (n := n) (k := kk) (A := B) (i := j) (by omega))]
          split <;> omega
        rw [ef]
        exact ⟨_, _, _, _, rfl, hK2⟩
      · rintro σ' G1 ⟨x7, x8, x9, x10, rfl, hK1⟩
        have hKG := hK.trans hK1
        rw [List.length_map, List.take_of_length_le (Nat.le_refl _), List.take_of_length_le (by rw [glv_len]; omega)]
        cases ebst : bst n F B i with
        | none =>
          rw [ebst] at eb
          subst eb
          walk_at "go"
          refine ⟨rfl, ?_⟩
          walk_at "go"
          refine g_kDY rfl ?_
          walk_at "go"
          exact ⟨_, _, _, _, _, _, _, rfl, hKG, rfl⟩
        | some mk =>
          obtain ⟨m0, k0⟩ := mk
          rw [ebst] at eb
          subst eb
          walk_at "go"
          refine ⟨rfl, ?_⟩
          walk_at "go"
          refine g_kDX (fun z => nomatch z) ?_
          walk_at "go"
          have ebb : bstep n F B (some (m0, k0)) kk = if farL F (glv n B kk) < m0 then some (farL F (glv n B kk), kk) else some (m0, k0) := rfl
          rw [ebb]
          refine g_kD (fun e => ?_) (fun e => ?_)
          · rw [if_pos (by omega)]
            walk_at "go"
            exact ⟨_, _, _, _, _, _, _, rfl, hKG, rfl⟩
          · rw [if_neg (by omega)]
            walk_at "go"
            exact ⟨_, _, _, _, _, _, _, rfl, hKG, rfl⟩
    · rintro σ' G ⟨bv, x5, x6, x7, x8, x9, x10, rfl, hK, eb⟩
      obtain ⟨m', k', e, _⟩ := bst_spec n F B (2 * F.length + 1) (by omega)
      rw [e] at eb
      subst eb
      have := (bst_leas hF hB hl e).1.uniq hL
      subst this
      walk_at "go"
      exact q G hK
end
end Ap


/-! _law_steps of k30. -/
namespace Ap
open PySem L2 PySem.Spec PyProof.Rows
def kWm (Pv : Nat → L2.St → Hp → Prop) (n : Nat) (tb : TS) (D : Ends) (σ : L2.St) : Hp → Prop := fun H1 => ∃ N : L2.St → Hp → Prop, (∀ σ' H', N σ' H' → ∃ m', m' < n ∧ Pv m' σ' H') ∧ tb { D with nx := N, ct := N, bk := D.nx } σ H1
instance i_kWm {Pv : Nat → L2.St → Hp → Prop} {n : Nat} {tb : TS} {D : Ends} {σ : L2.St} {H : Hp} : St (kWm Pv n tb D σ H) (tb ⟨fun σ' H' => ∃ m', m' < n ∧ Pv m' σ' H', D.rt, D.nx, fun σ' H' => ∃ m', m' < n ∧ Pv m' σ' H'⟩ σ H) := ⟨fun h => ⟨_, fun _ _ q => q, h⟩⟩
/-- a while, by what holds ahead of its test and a number that falls, which need not be told by the state -/
theorem g_whlN {tt : TT} {tb : TS} {D : Ends} {σ : L2.St} {H : Hp} (Pv : Nat → L2.St → Hp → Prop) (m0 : Nat) (h0 : Pv m0 σ H)
    (hs : ∀ m σ H, Pv m σ H → tt σ H (kIf (kWm Pv m tb D σ) (D.nx σ))) : tWhile tt tb D σ H := ⟨Pv, ⟨m0, h0⟩, hs⟩
theorem Fnd.mono {n : Nat} {F A' X : List Int} {d : Nat} {Ws : List (List Int)} (h : Fnd n F d Ws A') : Fnd n F d (Ws ++ [X]) A' := by
  obtain ⟨m, h1, h2⟩ := h
  exact ⟨m, h1, h2.imp id fun z => List.mem_append_left _ z⟩
/-- what is held while a layer is gone through -/
structure StH (H G1 : Hp) (d W : Addr) (n : Nat) (F : List Int) (dd : Nat) (Ws : List (List Int)) (G : Hp) : Prop where
  kp : Kp [] H G
  kd : Kp [d, W] G1 G
  ex : ∃ kvs ws, G d = some (.dT kvs) ∧ BF n F dd Ws kvs ∧ G W = some (.lst ws) ∧ DaAll (fun b => b ≠ d ∧ b ≠ W) G ws (Ws.map intsD)
theorem StH.keep {H G1 : Hp} {d W : Addr} {n : Nat} {F : List Int} {dd : Nat} {Ws : List (List Int)} {G G' : Hp} (h : StH H G1 d W n F dd Ws G) (k : Kp [] G G') : StH H G1 d W n F dd Ws G' := by
  obtain ⟨kvs, ws, h1, h2, h3, h4⟩ := h.ex
  exact ⟨h.kp.trans k, h.kd.trans k.any, kvs, ws, k.look nin0 h1 (ntb rfl), h2, k.lst nin0 h3, h4.keep k (fun _ _ => nin0) fun _ z => z⟩
theorem daAll_mem {P : Addr → Prop} {G : Hp} : ∀ {Ls : List (List Int)} {vs : List V}, DaAll P G vs (Ls.map intsD) → vs.length = Ls.length := fun h => by rw [h.length, List.length_map]
def spSteps : Sp := fun vs H Q _ => ∃ (p p' : Addr) (F A : List Int) (n m : Nat), vs = [.ref p, .ref p', .int n] ∧ H p = some (.lst (F.map V.int)) ∧ H p' = some (.lst (A.map V.int)) ∧ Bks n F ∧ Bks n A ∧ F.length = A.length ∧ n ≤ 8 ∧ Leas n F A m ∧
  ∀ H', Kp [] H H' → Q (.int m) H'
section
variable {P : Program} {w : World} {K : PySem.W.Frag} {mg : Str → Option Value} {base : Heap}
theorem ok_Lsteps (T : Txt K mg base) : FnG P w K mg base CX0 2 T.a_Lsteps T.fd_Lsteps ["_law_first", "_law_last", "_law_many"] spSteps := by
  refine fnG_of0 T.F_Lsteps sc_Lsteps (fun vs H Q E h => ?_) (fun cdv A outer s H vs Q E hcd hr gd h => ?_)
  · obtain ⟨p, p', F, A, n, m, rfl, _⟩ := h
    rfl
  · obtain ⟨p, p', F, B, n, m, rfl, hp, hp', hF, hB, hl, n8, hL, q⟩ := h
    have hFl := hF.lt
    have hFp := hF.pos
    refine ⟨_, (pss_cons (ps_set (i := 3) sc_Lsteps.nd rfl (Or.inl rfl) (pe_dispT hr.u1 (pe_callTy cr_tupL (by rfl) T.n_tuple (by decide +kernel) (pa_cons (pv 0) pa_nil)) pe_int))
    (pss_cons (ps_set (i := 4) sc_Lsteps.nd rfl (Or.inl rfl) (pe_lst (pa_cons (pv 0) pa_nil)))
    (pss_cons (ps_while PassesOwn.never (pt_cmpR (op_neE hr.units0) (pv 4) (pe_lst pa_nil) (nomark _))
      (pss_cons (ps_set (i := 5) sc_Lsteps.nd rfl (Or.inl rfl) (pe_lst pa_nil))
      (pss_cons (ps_for PassesOwn.never rfl (pi_list (pv 4)) (pg_name (i := 6) sc_Lsteps.nd rfl (Or.inl rfl))
        (pss_one (ps_for PassesOwn.never rfl (pi_range2 (by rfl) T.n_range (pa_cons pe_int (pa_cons (pe_op op_add (pv 2) pe_int) pa_nil))) (pg_name (i := 7) sc_Lsteps.nd rfl (Or.inl rfl))
          (pss_cons (ps_set (i := 8) sc_Lsteps.nd rfl (Or.inl rfl) (pe_callG (ok_Lturned T) (hr.mono (by decide)) gd rfl T.m_Lturned T.F_Lturned.kp T.b_Lturned .nil pass0 (pa_cons (pv 6) (pa_cons (pv 7) (pa_cons (pv 2) pa_nil)))))
          (pss_one (ps_if (PW.pt (pw_and (pt_cmpR op_notN (pv 8) pe_non (nomark _)) (pw_and1 (pt_cmp (pc_dnotin hr.u1 (pe_callTy cr_tupL (by rfl) T.n_tuple (by decide +kernel) (pa_cons (pv 8) pa_nil)) (pv 3)) (by rfl)))))
            (pss_cons (ps_dput hr.u1 (pv 3) (pe_callTy cr_tupL (by rfl) T.n_tuple (by decide +kernel) (pa_cons (pv 8) pa_nil)) (pe_op op_add (pe_dget hr.u1 (pv 3) (pe_callTy cr_tupL (by rfl) T.n_tuple (by decide +kernel) (pa_cons (pv 6) pa_nil)) (fun _ _ => rfl)) pe_int) rfl)
            (pss_one (ps_expr (pe_bm PySem.F.plainAttrs_list PySem.F.slot_list_append PySem.F.type_list_append mt_append (pv 5) (pa_cons (pv 8) pa_nil)))))
            pss_nil))))))
      (pss_one (ps_set (i := 4) sc_Lsteps.nd rfl (Or.inl rfl) (pv 5))))))
    (pss_one (ps_ret (pe_dget1 hr.u1 (pv 3) (pe_callTy cr_tupL (by rfl) T.n_tuple (by decide +kernel) (pa_cons (pv 1) pa_nil)) ⟨rfl, rfl, rfl, rfl⟩)))))), ?_⟩
    rw [show start ["_law_first", "_law_last", "_law_many", "_law_found", "_law_layer", "_law_wider", "_law_some", "_law_call", "_law_more"] [.ref p, .ref p', .int n] = [some (.ref p), some (.ref p'), some (.int n), none, none, none, none, none, none] from rfl]
    walk_at "go"
    refine g_dispT fun d hd => ?_
    have hp1 : upd H d (.dT []) p = some (.lst (F.map V.int)) := (upd_ne (ne_of_none hp hd)).trans hp
    have hK0 : Kp [] H (upd H d (.dT [])) := Kp.new hd
    have hd1 : upd H d (.dT []) d = some (.dT []) := upd_same
    generalize upd H d (.dT []) = H1 at *
    walk_at "go"
    refine g_tupL hp1 fun t ht => ?_
    have td : t ≠ d := fun z => by rw [z, hd1] at ht; cases ht
    have hK1 : Kp [] H (upd H1 t (.tup (F.map V.int))) := hK0.put (hK0.free ht)
    have hd2 : upd H1 t (.tup (F.map V.int)) d = some (.dT []) := (upd_ne (Ne.symm td)).trans hd1
    have et : upd H1 t (.tup (F.map V.int)) t = some (.tup ((kf F).map kV)) := by rw [kf_kV]; exact upd_same
    generalize upd H1 t (.tup (F.map V.int)) = H2 at *
    walk_at "go"
    refine g_kDp2 et hd2 ?_
    have hK3 : Kp [] H (upd H2 d (.dT [(kf F, .int 0)])) := hK1.put hd
    have hd3 : upd H2 d (.dT [(kf F, .int 0)]) d = some (.dT [(kf F, .int 0)]) := upd_same
    generalize upd H2 d (.dT [(kf F, .int 0)]) = H3 at *
    have hp3 := hK3.lst nin0 hp
    clear hK0 hK1 hd1 hd2 et ht hp1
    walk_at "go"
    rename_i L hL0
    have Ld : L ≠ d := fun z => by rw [z, hd3] at hL0; cases hL0
    have hK4 : Kp [] H (upd H3 L (.lst [.ref p])) := hK3.put (hK3.free hL0)
    have hd4 : upd H3 L (.lst [.ref p]) d = some (.dT [(kf F, .int 0)]) := (upd_ne (Ne.symm Ld)).trans hd3
    have hL4 : upd H3 L (.lst [.ref p]) L = some (.lst [.ref p]) := upd_same
    have hp4 := hK4.lst nin0 hp
    generalize upd H3 L (.lst [.ref p]) = H4 at *
    have pd : p ≠ d := ne_of_none hp hd
    refine g_whlN (fun m σ' G => ∃ (dd : Nat) (L : Addr) (Ls : List (List Int)) (kvs : List (List Key × V)) (vs : List V) (x5 x6 x7 x8 : Option V), m + dd = 66 ∧ σ' = [some (.ref p), some (.ref p'), some (.int n), some (.ref d), some (.ref L), x5, x6, x7, x8] ∧ Kp [] H G ∧
        G d = some (.dT kvs) ∧ BF n F dd [] kvs ∧ Lay n F dd Ls ∧ (∀ A ∈ Ls, Bks n A ∧ A.length = F.length) ∧ L ≠ d ∧ G L = some (.lst vs) ∧ DaAll (fun b => b ≠ d) G vs (Ls.map intsD)) 66
      ⟨0, L, [F], _, _, _, _, _, _, rfl, rfl, hK4, hd4, BF.start hF, Lay.start hF, fun A h => by rw [List.mem_singleton.mp h]; exact ⟨hF, rfl⟩, Ld, hL4, .cons (Da.ints pd hp4) .nil⟩ ?_
    clear hK3 hd3 hp3 hK4 hd4 hL4 hp4 hL0 Ld
    rintro m' σ' G ⟨dd, L, Ls, kvs, vs, x5, x6, x7, x8, em, rfl, hK, hkd, hBF, hLay, hLs, Ld, hLG, hDa⟩
    have lvs := daAll_mem hDa
    walk_at "go"
    refine g_kB (fun e => ?_) (fun e => ?_)
    · have hdd : dd ≤ 64 := by
        cases Ls with
        | nil =>
          have : vs = [] := List.length_eq_zero_iff.mp lvs
          subst this
          cases e
        | cons A Ls =>
          obtain ⟨a1, a2⟩ := hLs A List.mem_cons_self
          have a3 := ((hLay A a1 a2).mpr List.mem_cons_self).2 0
          rw [glv_zero] at a3
          have a4 := farL_bound hF.mem a1.mem
          have : F.length * n ≤ 8 * 8 := Nat.mul_le_mul (by omega) n8
          omega
      walk_at "go"
      rename_i lq' hlq W hW0
      have hKa : Kp [] G (upd G lq' (.lst [])) := Kp.new hlq
      have hKb : Kp [] (upd G lq' (.lst [])) (upd (upd G lq' (.lst [])) W (.lst [])) := Kp.new hW0
      have Wd : W ≠ d := fun z => by rw [z, (hKa.look nin0 hkd (ntb rfl))] at hW0; cases hW0
      have WL : W ≠ L := fun z => by rw [z, (hKa.lst nin0 hLG)] at hW0; cases hW0
      have W0 : H W = none := (hK.trans hKa).free hW0
      have hDa1 := ((hDa.keep hKa (fun _ _ => nin0) fun _ z => z).fresh (o := .lst []) hW0)
      have hK1 := hK.trans (hKa.trans hKb)
      have hkd1 := (hKa.trans hKb).look nin0 hkd (ntb rfl)
      have hL1 := (hKa.trans hKb).lst nin0 hLG
      have hW1 : upd (upd G lq' (.lst [])) W (.lst []) W = some (.lst []) := upd_same
      generalize upd (upd G lq' (.lst [])) W (.lst []) = G1 at *
      clear hKa hKb hlq hW0 hDa hkd hLG hK
      refine g_forL (xs := vs) (fun i σ' G' => ∃ (Ws : List (List Int)) (x6 x7 x8 : Option V), σ' = [some (.ref p), some (.ref p'), some (.int n), some (.ref d), some (.ref L), some (.ref W), x6, x7, x8] ∧ StH H G1 d W n F dd Ws G' ∧
          ∀ i' < i, ∀ A, Ls[i']? = some A → ∀ c ∈ up n, ∀ A', tnd n A c = some A' → Fnd n F dd Ws A')
        ⟨[], _, _, _, rfl, ⟨hK1, Kp.refl _ _, kvs, [], hkd1, hBF, hW1, .nil⟩, fun i' h => absurd h (by omega)⟩ (fun i σ' G' _ h => by
          obtain ⟨_, _, _, _, _, h, _⟩ := h
          exact SqL.of (h.kd.lst (nin2 Ld (Ne.symm WL)) hL1)) ?_ ?_
      · rintro i x σ' G2 hi ⟨Ws, x6, x7, x8, rfl, hS, hdone⟩
        obtain ⟨dA, hdA, hx⟩ := hDa1.getV hi
        rw [List.getElem?_map] at hdA
        obtain ⟨A, hA, rfl⟩ := Option.map_eq_some_iff.mp hdA
        obtain ⟨a, rfl, ⟨ad, aW⟩, ha1⟩ := Da.ints_inv (ns := A) hx
        obtain ⟨hBA, hAl⟩ := hLs A (List.mem_of_getElem? hA)
        have hLA := (hLay A hBA hAl).mpr (List.mem_of_getElem? hA)
        walk_at "go"
        rw [show ((n : Int) + 1 - 1).toNat = n by omega]
        refine g_forR (fun j σ' G' => ∃ (Ws : List (List Int)) (x7 x8 : Option V), σ' = [some (.ref p), some (.ref p'), some (.int n), some (.ref d), some (.ref L), some (.ref W), some (.ref a), x7, x8] ∧ StH H G1 d W n F dd Ws G' ∧
            (∀ i' < i, ∀ A, Ls[i']? = some A → ∀ c ∈ up n, ∀ A', tnd n A c = some A' → Fnd n F dd Ws A') ∧ ∀ j' < j, ∀ A', tnd n A (1 + (j' : Nat)) = some A' → Fnd n F dd Ws A')
          ⟨Ws, _, _, rfl, hS, hdone, fun j' h => absurd h (by omega)⟩ ?_ ?_
        · clear hS hdone
          rintro j σ' G3 hj ⟨Ws, x7, x8, rfl, hS, hdone, hdone2⟩
          have hj : j < n := hj
          have ha3 := hS.kd.lst (nin2 ad aW) ha1
          have hcu : 1 + (j : Int) ∈ up n := up_mem.mpr (by omega)
          walk_at "go"
          refine ⟨a, A, 1 + (j : Int), n, rfl, ha3, hBA, by omega, hcu, fun hnone G4 k4 => ?_, fun A' hA' r G4 r0 k4 e4 => ?_⟩
          · walk_at "go"
            refine ⟨rfl, ?_⟩
            walk_at "go"
            refine g_kNX rfl ?_
            walk_at "go"
            refine ⟨Ws, _, _, rfl, hS.keep k4, hdone, fun j' hj' A' hA' => ?_⟩
            rcases Nat.lt_or_ge j' j with z | z
            · exact hdone2 j' z A' hA'
            · obtain rfl : j' = j := by omega
              rw [hnone] at hA'
              cases hA'
          · obtain ⟨b1, b2, _⟩ := tnd_back hBA hcu hA'
            have hS4 := hS.keep k4
            have ha4 := k4.lst nin0 ha3
            have rW : r ≠ W := fun z => by
              obtain ⟨_, _, _, _, h, _⟩ := hS.ex
              rw [z, h] at r0
              cases r0
            clear hS k4 ha3 r0
            walk_at "go"
            refine ⟨rfl, ?_⟩
            walk_at "go"
            refine g_kNY (fun z => nomatch z) ?_
            walk_at "go"
            refine g_tupL e4 fun t ht => ?_
            have k5 : Kp [] G4 (upd G4 t (.tup (A'.map V.int))) := Kp.new ht
            have hS5 := hS4.keep k5
            have et : upd G4 t (.tup (A'.map V.int)) t = some (.tup ((kf A').map kV)) := by rw [kf_kV]; exact upd_same
            have e5 := k5.lst nin0 e4
            have ha5 := k5.lst nin0 ha4
            generalize upd G4 t (.tup (A'.map V.int)) = G5 at *
            clear hS4 e4 ha4 k5 ht
            obtain ⟨kv5, ws5, hd5, hb5, hw5, hda5⟩ := hS5.ex
            walk_at "go"
            refine g_dinT hd5 et ?_
            rw [if_neg (by decide)]
            walk_at "go"
            cases ev : valV kv5 (kf A') with
            | some v =>
              refine g_kX rfl ?_
              walk_at "go"
              refine ⟨Ws, _, _, rfl, hS5, hdone, fun j' hj' B' hB' => ?_⟩
              rcases Nat.lt_or_ge j' j with z | z
              · exact hdone2 j' z B' hB'
              · obtain rfl : j' = j := by omega
                rw [hA'] at hB'
                obtain rfl := Option.some.inj hB'
                exact hb5.found hF b1 (by omega) (by rw [ev]; exact Option.some_ne_none _)
            | none =>
              refine g_kY rfl ?_
              obtain ⟨l1, l2⟩ := hb5.add hF hBA hAl hLA hcu hA' ev
              walk_at "go"
              have hvA := hb5.val A dd hBA hAl hLA
              rw [if_pos (.inl (Nat.le_refl _))] at hvA
              refine g_tupL ha5 fun u hu => ?_
              have k6 : Kp [] G5 (upd G5 u (.tup (A.map V.int))) := Kp.new hu
              have eu : upd G5 u (.tup (A.map V.int)) u = some (.tup ((kf A).map kV)) := by rw [kf_kV]; exact upd_same
              have hd6 := k6.look nin0 hd5 (ntb rfl)
              have hw6 := k6.lst nin0 hw5
              have e6 := k6.lst nin0 e5
              have hda6 := hda5.keep k6 (fun _ _ => nin0) fun _ z => z
              have kp6 := hS5.kp.trans k6
              have kd6 : Kp [d, W] G1 _ := hS5.kd.trans k6.any
              generalize upd G5 u (.tup (A.map V.int)) = G6 at *
              clear hS5 hd5 hw5 e5 ha5 hda5 k6 hu et
              walk_at "go"
              refine g_getT hd6 eu hvA ?_
              walk_at "go"
              refine g_tupL e6 fun u2 hu2 => ?_
              have k7 : Kp [] G6 (upd G6 u2 (.tup (A'.map V.int))) := Kp.new hu2
              have eu2 : upd G6 u2 (.tup (A'.map V.int)) u2 = some (.tup ((kf A').map kV)) := by rw [kf_kV]; exact upd_same
              have hd7 := k7.look nin0 hd6 (ntb rfl)
              have hw7 := k7.lst nin0 hw6
              have e7 := k7.lst nin0 e6
              have hda7 := hda6.keep k7 (fun _ _ => nin0) fun _ z => z
              have kp7 := kp6.trans k7
              have kd7 : Kp [d, W] G1 _ := kd6.trans k7.any
              generalize upd G6 u2 (.tup (A'.map V.int)) = G7 at *
              clear hd6 hw6 e6 hda6 kp6 kd6 k7 hu2 eu
              have few := hb5.few
              have p8 : 2 ^ n ≤ 2 ^ 8 := Nat.pow_le_pow_right (by omega) n8
              walk_at "go"
              refine g_putT (k := kf A') hd7 eu2 (triv_szl (by omega)) ?_
              have rd : r ≠ d := fun z => by rw [z, hd7] at e7; cases e7
              have hw8 : upd G7 d (.dT (putK kv5 (kf A') (.int ((dd : Nat) + 1)))) W = some (.lst ws5) := (upd_ne Wd).trans hw7
              have e8 : upd G7 d (.dT (putK kv5 (kf A') (.int ((dd : Nat) + 1)))) r = some (.lst (A'.map V.int)) := (upd_ne rd).trans e7
              have hd8 : upd G7 d (.dT (putK kv5 (kf A') (.int ((dd : Nat) + 1)))) d = some (.dT (putK kv5 (kf A') (.int ((dd : Nat) + 1)))) := upd_same
              have hda8 := hda7.other (o := .dT (putK kv5 (kf A') (.int ((dd : Nat) + 1)))) (p := d) fun b hb => hb.1
              have kp8 : Kp [] H (upd G7 d (.dT (putK kv5 (kf A') (.int ((dd : Nat) + 1))))) := kp7.put hd
              have kd8 : Kp [d, W] G1 (upd G7 d (.dT (putK kv5 (kf A') (.int ((dd : Nat) + 1))))) := kd7.mut (by simp) hkd1 (ntb rfl)
              generalize upd G7 d (.dT (putK kv5 (kf A') (.int ((dd : Nat) + 1)))) = G8 at *
              clear hd7 hw7 e7 hda7 kp7 kd7
              have lws : ws5.length = Ws.length := daAll_mem hda8
              walk_at "go"
              refine g_append hw8 (triv_szl (by have := hb5.fewW; omega)) ?_
              walk_at "go"
              refine ⟨Ws ++ [A'], _, _, rfl, ⟨kp8.put W0, kd8.mut (by simp) hW1 (ntb rfl), _, _, (upd_ne (Ne.symm Wd)).trans hd8, l2, upd_same, ?_⟩, fun i' hi' B hB c hc B' hB' => (hdone i' hi' B hB c hc B' hB').mono, fun j' hj' B' hB' => ?_⟩
              · rw [List.map_append]
                exact (hda8.other fun b hb => hb.2).append (.cons (Da.ints ⟨rd, rW⟩ ((upd_ne rW).trans e8)) .nil)
              · rcases Nat.lt_or_ge j' j with z | z
                · exact (hdone2 j' z B' hB').mono
                · obtain rfl : j' = j := by omega
                  rw [hA'] at hB'
                  obtain rfl := Option.some.inj hB'
                  exact ⟨dd + 1, l1, .inr (List.mem_append_right _ (List.mem_singleton.mpr rfl))⟩
        · clear hS hdone
          rintro σ' G3 ⟨Ws, x7, x8, rfl, hS, hdone, hdone2⟩
          refine ⟨Ws, _, _, _, rfl, hS, fun i' hi' B hB c hc B' hB' => ?_⟩
          rcases Nat.lt_or_ge i' i with z | z
          · exact hdone i' z B hB c hc B' hB'
          · obtain rfl : i' = i := by omega
            rw [hA] at hB
            obtain rfl := Option.some.inj hB
            have b := up_mem.mp hc
            have := hdone2 (c - 1).toNat (by omega) B'
            rw [show 1 + (((c - 1).toNat : Nat) : Int) = c by omega] at this
            exact this hB'
      · rintro σ' G3 ⟨Ws, x6, x7, x8, rfl, hS, hdone⟩
        obtain ⟨kv5, ws5, hd5, hb5, hw5, hda5⟩ := hS.ex
        obtain ⟨n1, n2⟩ := hb5.next hF hLay fun A hA c hc A' hA' => by
          obtain ⟨i', hi', e'⟩ := List.getElem_of_mem hA
          exact hdone i' (by omega) A (by rw [List.getElem?_eq_getElem hi', e']) c hc A' hA'
        walk_at "go"
        exact ⟨m' - 1, by omega, dd + 1, W, Ws, kv5, ws5, _, _, _, _, by omega, rfl, hS.kp, hd5, n1, n2, fun A hA => ⟨(hb5.ws A hA).1, (hb5.ws A hA).2.1⟩, Wd, hw5, hda5.imp fun _ z => z.1⟩
    · have hvs : vs = [] := by
        cases vs with
        | nil => rfl
        | cons _ _ => cases e
      subst hvs
      obtain rfl : Ls = [] := List.length_eq_zero_iff.mp lvs.symm
      rename_i lq' hlq
      have hK5 : Kp [] H (upd G lq' (.lst [])) := hK.put (hK.free hlq)
      have dq : d ≠ lq' := ne_of_none hkd hlq
      have hkd5 : upd G lq' (.lst []) d = some (.dT kvs) := (upd_ne dq).trans hkd
      generalize upd G lq' (.lst []) = G5 at *
      have hp5 := hK5.lst nin0 hp'
      walk_at "go"
      refine g_kDG1T hkd5 ?_
      walk_at "go"
      refine g_tupL hp5 fun t ht => ?_
      have dt : d ≠ t := ne_of_none hkd5 ht
      have hK6 : Kp [] H (upd G5 t (.tup (B.map V.int))) := hK5.put (hK5.free ht)
      walk_at "go"
      refine g_kDG2T (kvs := kvs) (k := kf B) ((upd_ne dt).trans hkd5) (by rw [kf_kV]; exact upd_same) ?_
      rw [hBF.done hF hLay hB hl.symm hL]
      exact q _ hK6
end
end Ap


/-! _law_right of k30. -/
namespace Ap
open PySem L2 PySem.Spec PyProof.Rows
theorem some_len30 : ∀ i : Fin 1900, ((toString ((i.val : Nat) : Int) : String) : Str).length ≤ 4 := by decide +kernel
theorem Shw.nat30 {k : Nat} (h : k < 1900) : Shw (.int (k : Int)) 4 0 := by
  refine ⟨?_, ?_, by simp only [PyData.depth]; omega⟩
  · simp only [PyData.showable]
    refine decide_eq_true (Nat.lt_of_le_of_lt (Nat.log2_le_self _) ?_)
    show (k : Int).natAbs < 1920
    omega
  · simp only [PyData.shown]
    exact some_len30 ⟨k, h⟩
theorem Shw.none30 : Shw .none 4 0 := by
  refine ⟨by simp only [PyData.showable], ?_, by simp only [PyData.depth]; omega⟩
  simp only [PyData.shown]
  decide
theorem trn_app (n : Nat) (A : List Int) : ∀ cs ds : List Int, trn n A (cs ++ ds) = (trn n A cs).bind fun A' => trn n A' ds := by
  intro cs ds
  unfold trn
  rw [List.foldl_append]
  cases List.foldl (fun o c => o.bind fun A => tnd n A c) (some A) cs with
  | none => exact trn_none n ds
  | some A' => rfl
/-- on the way the lot stays one -/
theorem trn_way {n : Nat} {A B : List Int} (hA : Bks n A) {cs : List Int} (hc : ∀ c ∈ cs, c ∈ up n) (h : trn n A cs = some B) : ∀ i, i ≤ cs.length → ∃ Ai, trn n A (cs.take i) = some Ai ∧ Bks n Ai
  | 0, _ => ⟨A, rfl, hA⟩
  | i + 1, hi => by
    obtain ⟨Ai, e, b⟩ := trn_way hA hc h i (by omega)
    have hx : cs[i]? = some cs[i] := List.getElem?_eq_getElem (by omega)
    have et : cs.take (i + 1) = cs.take i ++ [cs[i]] := take_succ' hx
    have h2 : trn n A (cs.take (i + 1) ++ cs.drop (i + 1)) = some B := by rw [List.take_append_drop]; exact h
    rw [trn_app] at h2
    cases e2 : trn n A (cs.take (i + 1)) with
    | none => rw [e2] at h2; cases h2
    | some A2 =>
      refine ⟨A2, rfl, ?_⟩
      rw [et, trn_snoc, e] at e2
      exact (tnd_back b (hc _ (List.getElem_mem (by omega))) e2).1
def spRight30 (tb : List Addr) : Sp := fun vs H Q _ => ∃ (p p' : Addr) (o o' : List Int) (n : Nat), vs = [.ref p, .ref p'] ∧ H p = some (.lst (o.map V.int)) ∧ H p' = some (.lst (o'.map V.int)) ∧ 3 ≤ n ∧ n ≤ 40 ∧ Stand n o ∧ Stand n o' ∧ Tabs tb H ∧
  ∀ H', Kp [] H H' → Q (.bl true) H'
section
variable {P : Program} {w : World} {K : PySem.W.Frag} {mg : Str → Option Value} {base : Heap}
theorem ok_Lright (T : Txt K mg base) : FnG P w K mg base CX0 8 T.a_Lright T.fd_Lright ["_law_order", "_law_other"] (spRight30 T.tbs) := by
  refine fnG_of0 T.F_Lright sc_Lright (fun vs H Q E h => ?_) (fun cdv A outer s H vs Q E hcd hr gd h => ?_)
  · obtain ⟨p, p', o, o', n, rfl, _⟩ := h
    rfl
  · obtain ⟨p, p', o, o', n, rfl, hp, hp', n3, n40, hS, hS', hT, q⟩ := h
    have ln := hS.length
    have shO := Shw.stand hS n40
    have shO' := Shw.stand hS' n40
    have hBA := brk_bks (by omega) hS
    have hBB := brk_bks (by omega) hS'
    refine ⟨_, (pss_cons (ps_set (i := 2) sc_Lright.nd rfl (Or.inl rfl) (pe_callB (cr_repr hr gd) (by rfl) T.n_repr (by decide +kernel) (pa_cons (pe_lst (pa_cons (pv 0) (pa_cons (pv 1) pa_nil))) pa_nil)))
    (pss_cons (ps_set (i := 3) sc_Lright.nd rfl (Or.inl rfl) (pe_callB cr_len (by rfl) T.n_len (by decide +kernel) (pa_cons (pv 0) pa_nil)))
    (pss_cons (ps_par (i := 4) (j := 5) (by rfl) sc_Lright.nd rfl rfl (by decide) rfl rfl (pa_cons (pe_callG (ok_Lbreaks T) (hr.mono (by decide)) gd rfl T.m_Lbreaks T.F_Lbreaks.kp T.b_Lbreaks .nil pass0 (pa_cons (pv 0) pa_nil)) (pa_cons (pe_callG (ok_Lbreaks T) (hr.mono (by decide)) gd rfl T.m_Lbreaks T.F_Lbreaks.kp T.b_Lbreaks .nil pass0 (pa_cons (pv 1) pa_nil)) pa_nil)) (by rfl))
    (pss_cons (ps_set (i := 6) sc_Lright.nd rfl (Or.inl rfl) (pe_lst (pa_cons (pe_call (ok_fewest_turns T) (hr.mono (by decide)) rfl T.m_fewest_turns T.F_fewest_turns.kp T.b_fewest_turns .nil pass0 (pa_cons (pv 0) (pa_cons (pv 1) pa_nil))) (pa_cons (pe_callGK (FnG.of (ok_fewest_turns T)) (hr.mono (by decide)) gd rfl T.m_fewest_turns T.F_fewest_turns.kp (kb_sw2 T.F_fewest_turns fun _ _ _ _ _ _ _ _ => rfl) pass0 (pk_cons (pv 1) (pk_cons (pv 0) pk_nil))) pa_nil))))
    (pss_cons (ps_set (i := 7) sc_Lright.nd rfl (Or.inl rfl) (pe_lst (pa_cons (pe_call (ok_turns T) (hr.mono (by decide)) rfl T.m_turns T.F_turns.kp T.b_turns .nil pass0 (pa_cons (pv 0) (pa_cons (pv 1) pa_nil))) (pa_cons (pe_callGK (FnG.of (ok_turns T)) (hr.mono (by decide)) gd rfl T.m_turns T.F_turns.kp (kb_sw2 T.F_turns fun _ _ _ _ _ _ _ _ => rfl) pass0 (pk_cons (pv 1) (pk_cons (pv 0) pk_nil))) pa_nil))))
    (pss_cons (ps_if (pt_cmpR op_ne (pe_callB cr_len (by rfl) T.n_len (by decide +kernel) (pa_cons (pv 4) pa_nil)) (pe_callB cr_len (by rfl) T.n_len (by decide +kernel) (pa_cons (pv 5) pa_nil)) (nomark _))
      (pss_one (ps_ret (pe_cmpR op_eq (pe_callB (cr_repr hr gd) (by rfl) T.n_repr (by decide +kernel) (pa_cons (pe_lst (pa_cons (pv 6) (pa_cons (pv 7) pa_nil))) pa_nil)) (pe_callB (cr_repr hr gd) (by rfl) T.n_repr (by decide +kernel) (pa_cons (pe_op op_rep (pe_lst (pa_cons (pe_lst (pa_cons pe_non (pa_cons pe_non pa_nil))) pa_nil)) pe_int) pa_nil)) (nomark _))))
      pss_nil)
    (pss_cons (ps_set (i := 8) sc_Lright.nd rfl (Or.inl rfl) (pe_callG (ok_Lleast T) (hr.mono (by decide)) gd rfl T.m_Lleast T.F_Lleast.kp T.b_Lleast .nil pass0 (pa_cons (pv 4) (pa_cons (pv 5) (pa_cons (pv 3) pa_nil)))))
    (pss_cons (ps_if (PW.pt (pw_or (pt_cmpR op_ne (pe_callB (cr_repr hr gd) (by rfl) T.n_repr (by decide +kernel) (pa_cons (pv 6) pa_nil)) (pe_callB (cr_repr hr gd) (by rfl) T.n_repr (by decide +kernel) (pa_cons (pe_lst (pa_cons (pv 8) (pa_cons (pv 8) pa_nil))) pa_nil)) (nomark _)) (pw_or (pt_cmpR op_ne (pe_callB (cr_repr hr gd) (by rfl) T.n_repr (by decide +kernel) (pa_cons (pe_ix ix_list (pv 7) pe_int (fun _ _ => rfl)) pa_nil)) (pe_callB (cr_repr hr gd) (by rfl) T.n_repr (by decide +kernel) (pa_cons (pe_ix ix_list (pv 7) pe_int (fun _ _ => rfl)) pa_nil)) (nomark _)) (pw_or1 (pt_cmpR op_ne (pe_callB cr_len (by rfl) T.n_len (by decide +kernel) (pa_cons (pe_ix ix_list (pv 7) pe_int (fun _ _ => rfl)) pa_nil)) (pv 8) (nomark _))))))
      (pss_one (ps_ret pe_bl))
      pss_nil)
    (pss_cons (ps_for PassesOwn.never rfl (pi_list (pe_ix ix_list (pv 7) pe_int (fun _ _ => rfl))) (pg_name (i := 9) sc_Lright.nd rfl (Or.inl rfl))
      (pss_cons (ps_set (i := 4) sc_Lright.nd rfl (Or.inl rfl) (pe_ifExp (pt_cmpR op_inRng (pv 9) (pe_callTy cr_rng2 (by rfl) T.n_range (by decide +kernel) (pa_cons pe_int (pa_cons (pe_op op_add (pv 3) pe_int) pa_nil))) (by rfl)) (pe_callG (ok_Lturned T) (hr.mono (by decide)) gd rfl T.m_Lturned T.F_Lturned.kp T.b_Lturned .nil pass0 (pa_cons (pv 4) (pa_cons (pv 9) (pa_cons (pv 3) pa_nil)))) pe_non))
      (pss_one (ps_if (pt_cmpR op_isN (pv 4) pe_non (nomark _))
        (pss_one (ps_ret pe_bl))
        pss_nil))))
    (pss_cons (ps_expr (pe_bm PySem.F.plainAttrs_list PySem.F.slot_list_append PySem.F.type_list_append mt_append (pe_ix ix_list (pv 7) pe_int (fun _ _ => rfl)) (pa_cons pe_non pa_nil)))
    (pss_one (ps_ret (pe_and (pe_cmpR (op_eqD hr.units) (pv 4) (pv 5) (nomark _)) (pe_and (pe_cmpR op_eq (pe_callB (cr_repr hr gd) (by rfl) T.n_repr (by decide +kernel) (pa_cons (pe_call (ok_turns T) (hr.mono (by decide)) rfl T.m_turns T.F_turns.kp T.b_turns .nil pass0 (pa_cons (pv 0) (pa_cons (pv 1) pa_nil))) pa_nil)) (pe_callB (cr_repr hr gd) (by rfl) T.n_repr (by decide +kernel) (pa_cons (pe_ix ix_list (pv 7) pe_int (fun _ _ => rfl)) pa_nil)) (nomark _)) (pe_one (pe_cmpR op_eq (pe_callB (cr_repr hr gd) (by rfl) T.n_repr (by decide +kernel) (pa_cons (pe_lst (pa_cons (pv 0) (pa_cons (pv 1) pa_nil))) pa_nil)) (pv 2) (nomark _))))))))))))))))), ?_⟩
    rw [show start ["_law_order", "_law_other", "_law_before", "_law_many", "_law_first", "_law_last", "_law_told", "_law_rows", "_law_due", "_law_call"] [.ref p, .ref p'] = [some (.ref p), some (.ref p'), none, none, none, none, none, none, none, none] from rfl]
    walk_at "go"
    rename_i l0 hl0
    have k0 : Kp [] H (upd H l0 (.lst [.ref p, .ref p'])) := (Kp.refl _ _).put hl0
    refine g_rep (dp_two upd_same (dp_ints (k0.lst nin0 hp)) (dp_ints (k0.lst nin0 hp'))) (Shw.two shO shO') (by decide) (by decide) ?_
    generalize upd H l0 (.lst [.ref p, .ref p']) = H0 at *
    have hp0 := k0.lst nin0 hp
    walk_at "go"
    rw [List.length_map, ln]
    walk_at "go"
    refine ⟨p, o, n, rfl, hp0, by omega, n40, hS, fun f1 H1 f10 k1 e1 => ?_⟩
    have k1 := k0.trans k1
    walk_at "go"
    refine ⟨p', o', n, rfl, k1.lst nin0 hp', by omega, n40, hS', fun f2 H2 f20 k2 e2 => ?_⟩
    have e1 := k2.lst nin0 e1
    have k2 := k1.trans k2
    clear k1 k0 hp0 f10 f20
    walk_at "go"
    by_cases hb : nB o n = nB o' n
    · refine ⟨p, p', o, o', n, rfl, k2.lst nin0 hp, k2.lst nin0 hp', n3, n40, hS, hS', k2.tabs hT, fun ne => absurd hb ne, fun _ m H3 hL k3 => ?_⟩
      have e1 := k3.lst nin0 e1
      have e2 := k3.lst nin0 e2
      have k3 := k2.trans k3
      clear k2
      walk_at "go"
      refine ⟨p, p', o, o', n, rfl, k3.lst nin0 hp, k3.lst nin0 hp', n3, n40, hS, hS', k3.tabs hT, fun ne => absurd hb ne, fun _ m2 H4 hL2 k4 => ?_⟩
      obtain rfl := hL.uniq hL2
      have e1 := k4.lst nin0 e1
      have e2 := k4.lst nin0 e2
      have k4 := k3.trans k4
      clear k3 hL2
      walk_at "go"
      rename_i tl htl
      have k5 : Kp [] H4 (upd H4 tl (.lst [.int m, .int m])) := Kp.new htl
      have et : upd H4 tl (.lst [.int m, .int m]) tl = some (.lst [.int m, .int m]) := upd_same
      have e1 := k5.lst nin0 e1
      have e2 := k5.lst nin0 e2
      have k5 := k4.trans k5
      generalize upd H4 tl (.lst [.int m, .int m]) = H5 at *
      clear k4 htl
      refine ⟨p, p', o, o', n, rfl, k5.lst nin0 hp, k5.lst nin0 hp', n3, n40, hS, hS', k5.tabs hT, fun ne => absurd hb ne, fun _ m3 kk cs r0 H6 eb hTT r00 k6 er => ?_⟩
      have r0f2 : f2 ≠ r0 := ne_of_none e2 r00
      have r0f1 : f1 ≠ r0 := ne_of_none e1 r00
      have e1 := k6.lst nin0 e1
      have e2 := k6.lst nin0 e2
      have et := k6.lst nin0 et
      have k6 := k5.trans k6
      have r00 := k5.free r00
      clear k5
      walk_at "go"
      refine ⟨p, p', o, o', n, rfl, k6.lst nin0 hp, k6.lst nin0 hp', n3, n40, hS, hS', k6.tabs hT, fun ne => absurd hb ne, fun _ m4 kk2 cs2 r1 H7 eb2 hTT2 r10 k7 er1 => ?_⟩
      rw [eb] at eb2
      obtain ⟨rfl, rfl⟩ := Prod.mk.inj (Option.some.inj eb2)
      obtain rfl := hTT.uniq hTT2
      have r01 : r0 ≠ r1 := ne_of_none er r10
      have e1 := k7.lst nin0 e1
      have e2 := k7.lst nin0 e2
      have et := k7.lst nin0 et
      have er := k7.lst nin0 er
      have r10 := k6.free r10
      have k7 := k6.trans k7
      clear k6 hTT2 eb2
      obtain ⟨hL3, hfar⟩ := bst_leas hBA hBB hb eb
      obtain rfl := hL.uniq hL3
      obtain ⟨htr, hcl, hcu⟩ := hTT.right hBA hBB hb
      have hm16 : m ≤ 1600 := by
        have a := hL.2 0
        rw [glv_zero] at a
        have := farL_bound hBA.mem hBB.mem
        have h40 : (brk n o).length * n ≤ 40 * 40 := Nat.mul_le_mul (by have := hBA.lt; omega) n40
        omega
      walk_at "go"
      rename_i rl hrl
      have r0l : rl ≠ r0 := Ne.symm (ne_of_none er hrl)
      have k8 : Kp [] H7 (upd H7 rl (.lst [.ref r0, .ref r1])) := Kp.new hrl
      have erl : upd H7 rl (.lst [.ref r0, .ref r1]) rl = some (.lst [.ref r0, .ref r1]) := upd_same
      have e1 := k8.lst nin0 e1
      have e2 := k8.lst nin0 e2
      have et := k8.lst nin0 et
      have er := k8.lst nin0 er
      have er1 := k8.lst nin0 er1
      have k8 := k7.trans k8
      generalize upd H7 rl (.lst [.ref r0, .ref r1]) = H8 at *
      clear k7 hrl
      walk_at "go"
      refine g_kNX (by rw [List.length_map, List.length_map]; unfold nB at hb; omega) ?_
      walk_at "go"
      refine ⟨f1, f2, brk n o, brk n o', n, m, rfl, e1, e2, hBA, hBB, hb, n40, hL, fun H9 k9 => ?_⟩
      have e1 := k9.lst nin0 e1
      have e2 := k9.lst nin0 e2
      have et := k9.lst nin0 et
      have er := k9.lst nin0 er
      have er1 := k9.lst nin0 er1
      have erl := k9.lst nin0 erl
      have k9 := k8.trans k9
      clear k8
      walk_at "go"
      have shm : Shw (.int (m : Nat)) 4 0 := Shw.nat30 (by omega)
      have shT : Shw (.list [.int (m : Nat), .int (m : Nat)]) 20 1 := (Shw.two shm shm).grow (by decide) (by decide)
      have shC : Shw (intsD cs) 20000 1 := (Shw.ints (n := 1600) (fun x hx => by have := up_mem.mp (hcu x hx); omega) (by omega)).grow (by decide) (by decide)
      refine g_rep (.lst (SqL.of et) (.cons (.int _) (.cons (.int _) .nil))) shT (by decide) (by decide) ?_
      walk_at "go"
      rename_i w1 hw1
      have k10 : Kp [] H9 (upd H9 w1 (.lst [.int m, .int m])) := Kp.new hw1
      have ew : upd H9 w1 (.lst [.int m, .int m]) w1 = some (.lst [.int m, .int m]) := upd_same
      refine g_rep (.lst (SqL.of ew) (.cons (.int _) (.cons (.int _) .nil))) shT (by decide) (by decide) ?_
      have e1 := k10.lst nin0 e1
      have e2 := k10.lst nin0 e2
      have er := k10.lst nin0 er
      have er1 := k10.lst nin0 er1
      have erl := k10.lst nin0 erl
      have k10 := k9.trans k10
      generalize upd H9 w1 (.lst [.int m, .int m]) = H10 at *
      clear k9 hw1 et ew
      walk_at "go"
      refine g_kNX rfl ?_
      walk_at "go"
      refine g_rep (dp_ints er) shC (by decide) (by decide) ?_
      walk_at "go"
      refine g_rep (dp_ints er1) shC (by decide) (by decide) ?_
      walk_at "go"
      refine g_kNX rfl ?_
      walk_at "go"
      refine g_kNX (by rw [List.length_map]; omega) ?_
      walk_at "go"
      have way := trn_way hBA hcu htr
      refine g_forL (xs := cs.map V.int) (fun i σ' G => ∃ (f : Addr) (Ai : List Int) (x9 : Option V), σ' = [some (.ref p), some (.ref p'), some (.str (PyData.list [intsD o, intsD o']).shown), some (.int n), some (.ref f), some (.ref f2), some (.ref tl), some (.ref rl), some (.int m), x9] ∧
          Kp [] H10 G ∧ f ≠ r0 ∧ G f = some (.lst (Ai.map V.int)) ∧ trn n (brk n o) (cs.take i) = some Ai ∧ Bks n Ai)
        ⟨f1, brk n o, _, rfl, Kp.refl _ _, r0f1, e1, rfl, hBA⟩ (fun i σ' G _ h => by obtain ⟨_, _, _, _, h, _⟩ := h; exact SqL.of (h.lst nin0 er1)) ?_ ?_
      · rintro i x σ' G hi ⟨f, Ai, x9, rfl, hK, r0f, ef, htk, hbk⟩
        rw [List.getElem?_map] at hi
        obtain ⟨c, hc, rfl⟩ := Option.map_eq_some_iff.mp hi
        have hcm := hcu c (List.mem_of_getElem? hc)
        have hcb := up_mem.mp hcm
        obtain ⟨A2, t2, _⟩ := way (i + 1) (by have := (List.getElem?_eq_some_iff.mp hc).1; omega)
        have t3 := t2
        rw [take_succ' hc, trn_snoc, htk] at t3
        have t3 : tnd n Ai c = some A2 := t3
        walk_at "go"
        refine fun g hg => ?_
        have kg : Kp [] G (upd G g (.rng 1 ((n : Int) + 1))) := Kp.new hg
        have eg : upd G g (.rng 1 ((n : Int) + 1)) g = some (.rng 1 ((n : Int) + 1)) := upd_same
        have ef := kg.lst nin0 ef
        have hK := hK.trans kg
        generalize upd G g (.rng 1 ((n : Int) + 1)) = G1 at *
        clear kg hg
        walk_at "go"
        refine g_inRng eg ?_
        walk_at "go"
        refine g_kDY (by omega) ?_
        walk_at "go"
        refine ⟨f, Ai, c, n, rfl, ef, hbk, n40, hcm, fun hn => absurd (t3.symm.trans hn) (fun z => nomatch z), fun A' hA' fq G2 fq0 k2 e2' => ?_⟩
        rw [t3] at hA'
        obtain rfl := Option.some.inj hA'
        walk_at "go"
        refine ⟨rfl, ?_⟩
        walk_at "go"
        refine g_kDX (fun z => nomatch z) ?_
        walk_at "go"
        exact ⟨fq, _, _, rfl, hK.trans k2, Ne.symm (ne_of_none (hK.lst nin0 er) fq0), e2', t2, (tnd_back hbk hcm t3).1⟩
      · rintro σ' G ⟨f, Ai, x9, rfl, hK, r0f, ef, htk, hbk⟩
        rw [List.length_map, List.take_of_length_le (Nat.le_refl _), htr] at htk
        obtain rfl := Option.some.inj htk
        have e2 := hK.lst nin0 e2
        have er := hK.lst nin0 er
        have er1 := hK.lst nin0 er1
        have erl := hK.lst nin0 erl
        have hK := k10.trans hK
        clear k10 e1
        walk_at "go"
        refine g_append er (triv_szl (by rw [List.length_map]; omega)) ?_
        have e2 : upd G r0 (.lst (cs.map V.int ++ [.non])) f2 = _ := (upd_ne r0f2).trans e2
        have ef : upd G r0 (.lst (cs.map V.int ++ [.non])) f = _ := (upd_ne r0f).trans ef
        have er1 : upd G r0 (.lst (cs.map V.int ++ [.non])) r1 = _ := (upd_ne (Ne.symm r01)).trans er1
        have erl : upd G r0 (.lst (cs.map V.int ++ [.non])) rl = _ := (upd_ne r0l).trans erl
        have hK : Kp [] H (upd G r0 (.lst (cs.map V.int ++ [.non]))) := hK.put r00
        generalize upd G r0 (.lst (cs.map V.int ++ [.non])) = G1 at *
        clear er
        walk_at "go"
        refine g_eqI2 ef e2 ?_
        rw [decide_eq_true rfl]
        walk_at "go"
        refine ⟨p, p', o, o', n, rfl, hK.lst nin0 hp, hK.lst nin0 hp', n3, n40, hS, hS', hK.tabs hT, fun ne => absurd hb ne, fun _ m4 kk2 cs2 r2 G2 eb2 hTT2 _ k2 er2 => ?_⟩
        rw [eb] at eb2
        obtain ⟨rfl, rfl⟩ := Prod.mk.inj (Option.some.inj eb2)
        obtain rfl := hTT.uniq hTT2
        have er1 := k2.lst nin0 er1
        have erl := k2.lst nin0 erl
        have hK := hK.trans k2
        walk_at "go"
        refine g_rep (dp_ints er2) shC (by decide) (by decide) ?_
        walk_at "go"
        refine g_rep (dp_ints er1) shC (by decide) (by decide) ?_
        walk_at "go"
        rw [decide_eq_true rfl]
        walk_at "go"
        rename_i l9 hl9
        have k9 : Kp [] H (upd G2 l9 (.lst [.ref p, .ref p'])) := hK.put (hK.free hl9)
        refine g_rep (dp_two upd_same (dp_ints (k9.lst nin0 hp)) (dp_ints (k9.lst nin0 hp'))) (Shw.two shO shO') (by decide) (by decide) ?_
        walk_at "go"
        rw [decide_eq_true rfl]
        exact q _ k9
    · refine ⟨p, p', o, o', n, rfl, k2.lst nin0 hp, k2.lst nin0 hp', n3, n40, hS, hS', k2.tabs hT, fun _ H3 k3 => ?_, fun ne => absurd ne hb⟩
      have e1 := k3.lst nin0 e1
      have e2 := k3.lst nin0 e2
      have k3 := k2.trans k3
      clear k2
      walk_at "go"
      refine ⟨p, p', o, o', n, rfl, k3.lst nin0 hp, k3.lst nin0 hp', n3, n40, hS, hS', k3.tabs hT, fun _ H4 k4 => ?_, fun ne => absurd ne hb⟩
      have e1 := k4.lst nin0 e1
      have e2 := k4.lst nin0 e2
      have k4 := k3.trans k4
      clear k3
      walk_at "go"
      rename_i tl htl
      have k5 : Kp [] H4 (upd H4 tl (.lst [.non, .non])) := Kp.new htl
      have et : upd H4 tl (.lst [.non, .non]) tl = some (.lst [.non, .non]) := upd_same
      have e1 := k5.lst nin0 e1
      have e2 := k5.lst nin0 e2
      have k5 := k4.trans k5
      generalize upd H4 tl (.lst [.non, .non]) = H5 at *
      clear k4 htl
      refine ⟨p, p', o, o', n, rfl, k5.lst nin0 hp, k5.lst nin0 hp', n3, n40, hS, hS', k5.tabs hT, fun _ H6 k6 => ?_, fun ne => absurd ne hb⟩
      have e1 := k6.lst nin0 e1
      have e2 := k6.lst nin0 e2
      have et := k6.lst nin0 et
      have k6 := k5.trans k6
      clear k5
      walk_at "go"
      refine ⟨p, p', o, o', n, rfl, k6.lst nin0 hp, k6.lst nin0 hp', n3, n40, hS, hS', k6.tabs hT, fun _ H7 k7 => ?_, fun ne => absurd ne hb⟩
      have e1 := k7.lst nin0 e1
      have e2 := k7.lst nin0 e2
      have et := k7.lst nin0 et
      have k7 := k6.trans k7
      clear k6
      walk_at "go"
      rename_i rl hrl
      have k8 : Kp [] H7 (upd H7 rl (.lst [.non, .non])) := Kp.new hrl
      have er : upd H7 rl (.lst [.non, .non]) rl = some (.lst [.non, .non]) := upd_same
      have e1 := k8.lst nin0 e1
      have e2 := k8.lst nin0 e2
      have et := k8.lst nin0 et
      have k8 := k7.trans k8
      generalize upd H7 rl (.lst [.non, .non]) = H8 at *
      clear k7 hrl
      walk_at "go"
      refine g_kNY (by rw [List.length_map, List.length_map]; unfold nB at hb; omega) ?_
      walk_at "go"
      rename_i w1 hw1
      have k9 : Kp [] H8 (upd H8 w1 (.lst [.ref tl, .ref rl])) := Kp.new hw1
      have ew : upd H8 w1 (.lst [.ref tl, .ref rl]) w1 = some (.lst [.ref tl, .ref rl]) := upd_same
      have et := k9.lst nin0 et
      have er := k9.lst nin0 er
      have k9 := k8.trans k9
      generalize upd H8 w1 (.lst [.ref tl, .ref rl]) = H9 at *
      have shN : Shw (.list [.none, .none]) 20 1 := (Shw.list (b := 4) (d := 0) (n := 2) (fun x hx => by
        simp only [List.mem_cons, List.not_mem_nil, or_false, or_self] at hx
        rw [hx]
        exact Shw.none30) (Nat.le_refl _)).grow (by decide) (by decide)
      refine g_rep (dp_two ew (.lst (SqL.of et) (.cons .non (.cons .non .nil))) (.lst (SqL.of er) (.cons .non (.cons .non .nil)))) (Shw.two shN shN) (by decide) (by decide) ?_
      clear k8 hw1
      walk_at "go"
      rename_i v1 hv1 v2 hv2
      have v12 : v1 ≠ v2 := ne_of_none (o := .lst [.non, .non]) upd_same hv2
      have e3 : upd (upd H9 v1 (.lst [.non, .non])) v2 (.lst [.ref v1]) v1 = some (.lst [.non, .non]) := (upd_ne v12).trans upd_same
      have e4 : upd (upd H9 v1 (.lst [.non, .non])) v2 (.lst [.ref v1]) v2 = some (.lst [.ref v1]) := upd_same
      have k10 : Kp [] H (upd (upd H9 v1 (.lst [.non, .non])) v2 (.lst [.ref v1])) := (k9.put (k9.free hv1)).put ((k9.put (k9.free hv1)).free hv2)
      generalize upd (upd H9 v1 (.lst [.non, .non])) v2 (.lst [.ref v1]) = H10 at *
      refine g_mul e4 (by decide) (by decide) (by show 1 * 2 ≤ 1000000; decide) fun v3 hv3 => ?_
      have v13 : v1 ≠ v3 := ne_of_none e3 hv3
      have e5 : upd H10 v3 (.lst (List.replicate (2 : Int).toNat [V.ref v1]).flatten) v3 = some (.lst [.ref v1, .ref v1]) := upd_same
      have e6 : upd H10 v3 (.lst (List.replicate (2 : Int).toNat [V.ref v1]).flatten) v1 = some (.lst [.non, .non]) := (upd_ne v13).trans e3
      have k11 : Kp [] H (upd H10 v3 (.lst (List.replicate (2 : Int).toNat [V.ref v1]).flatten)) := k10.put (k10.free hv3)
      generalize upd H10 v3 (.lst (List.replicate (2 : Int).toNat [V.ref v1]).flatten) = H11 at *
      walk_at "go"
      refine g_rep (dp_two e5 (.lst (SqL.of e6) (.cons .non (.cons .non .nil))) (.lst (SqL.of e6) (.cons .non (.cons .non .nil)))) (Shw.two shN shN) (by decide) (by decide) ?_
      walk_at "go"
      rw [decide_eq_true rfl]
      exact q _ k11
end
end Ap


/-! _law_others of k30. -/
namespace Ap
open PySem L2 PySem.Spec PyProof.Rows
def spOthers : Sp := fun vs H Q _ => ∃ (a p : Addr) (m n : Nat) (o : List Int), vs = [.ref a, .ref p] ∧ Draws a m H ∧ m + 1000 < 2 ^ 40 ∧ H p = some (.lst (o.map V.int)) ∧ p ≠ a ∧ 3 ≤ n ∧ n ≤ 40 ∧ Stand n o ∧
  ∀ (q : Addr) (ps : List Addr) (H' : Hp), H q = none → Kp [a] H H' → Draws a (m + 200) H' → H' q = some (.lst (ps.map V.ref)) → (∀ p' ∈ ps, H p' = none ∧ ∃ o', Stand n o' ∧ H' p' = some (.lst (o'.map V.int))) → Q (.ref q) H'
theorem g_catK {H : Hp} {Q : VK} {l b : Addr} {xs zs : List Int} (e : H l = some (.lst (xs.map V.int))) (e2 : H b = some (.lst (zs.map V.int))) (h : xs.length + zs.length ≤ 1000000)
    (k : ∀ p G, H p = none → Kp [] H G → G p = some (.lst ((xs ++ zs).map V.int)) → Q (.ref p) G) : rCat (.ref l) (.ref b) H Q :=
  g_cat e e2 (by rw [List.length_map, List.length_map]; exact triv_sz h) fun p hp => k p _ hp (Kp.new hp) (by rw [List.map_append]; exact upd_same)
section
variable {P : Program} {w : World} {K : PySem.W.Frag} {mg : Str → Option Value} {base : Heap}
theorem ok_Lothers (T : Txt K mg base) : FnG P w K mg base CX0 3 T.a_Lothers T.fd_Lothers ["_law_draws_here", "_law_order"] spOthers := by
  refine fnG_of0 T.F_Lothers sc_Lothers (fun vs H Q E h => ?_) (fun cdv A outer s H vs Q E hcd hr gd h => ?_)
  · obtain ⟨a, p, m, n, o, rfl, _⟩ := h
    rfl
  · obtain ⟨a, p, m, n, o, rfl, hD, hm, hp, hpa, n3, n40, hS, q⟩ := h
    have Ha : H a ≠ none := hD.ne
    have lo := hS.length
    refine ⟨_, (pss_cons (ps_set (i := 2) sc_Lothers.nd rfl (Or.inr rfl) (pe_callB cr_len (by rfl) T.n_len (by decide +kernel) (pa_cons (pv 1) pa_nil)))
    (pss_cons (ps_set (i := 3) sc_Lothers.nd rfl (Or.inr rfl) (pe_op op_add pe_int (pe_op op_mod (pe_callTy cr_int (by rfl) T.n_int (by decide +kernel) (pa_cons (pe_callG (ok_Lnext T) (hr.mono (by decide)) gd rfl T.m_Lnext T.F_Lnext.kp T.b_Lnext .nil pass0 (pa_cons (pv 0) pa_nil)) pa_nil)) (pe_op op_sub (pv 2) pe_int))))
    (pss_cons (ps_setLc (i := 4) (own := [("_law_call", 9)]) (g := gName 9) (tt := tYes) rfl sc_Lothers.nd rfl rfl (sw_true rfl rfl rfl (by decide +kernel)) (pi_list (pv 1)) (blkOk_by (N := ["_law_draws_here", "_law_order", "_law_many", "_law_by", "_law_shifted", "_law_bent", "_law_turn", "_law_at", "_law_mixed_here", "_law_call"]) (sc := defScope s_Lothers) (by decide +kernel)) (fun _ _ _ _ _ => (pg_name (i := 9) sc_Lothers.nd rfl (Or.inl rfl))) (fun _ _ _ _ _ => pts_nil) (fun _ _ _ _ _ => (pe_op op_add (pe_op op_mod (pe_op op_sub (pe_op op_add (pv 9) (pv 3)) pe_int) (pv 2)) pe_int)))
    (pss_cons (ps_set (i := 5) sc_Lothers.nd rfl (Or.inl rfl) (pe_callTy cr_list (by rfl) T.n_list (by decide +kernel) (pa_cons (pv 1) pa_nil)))
    (pss_cons (ps_for PassesOwn.never rfl (pi_range1 (by rfl) T.n_range (pa_cons (pe_op op_mod (pe_callTy cr_int (by rfl) T.n_int (by decide +kernel) (pa_cons (pe_callG (ok_Lnext T) (hr.mono (by decide)) gd rfl T.m_Lnext T.F_Lnext.kp T.b_Lnext .nil pass0 (pa_cons (pv 0) pa_nil)) pa_nil)) pe_int) pa_nil)) (pg_name (i := 6) sc_Lothers.nd rfl (Or.inl rfl))
      (pss_cons (ps_set (i := 7) sc_Lothers.nd rfl (Or.inl rfl) (pe_op op_mod (pe_callTy cr_int (by rfl) T.n_int (by decide +kernel) (pa_cons (pe_callG (ok_Lnext T) (hr.mono (by decide)) gd rfl T.m_Lnext T.F_Lnext.kp T.b_Lnext .nil pass0 (pa_cons (pv 0) pa_nil)) pa_nil)) (pv 2)))
      (pss_one (ps_if (PW.pt (pw_and (pt_cmpR op_lt (pv 7) (pe_op op_sub (pv 2) pe_int) (nomark _)) (pw_and1 (pt_cmpR op_notIn_seq (pe_op op_mod (pe_op op_sub (pe_ix ix_list (pv 5) (pv 7) (fun _ _ => rfl)) (pe_ix ix_list (pv 5) (pe_op op_add (pv 7) pe_int) (fun _ _ => rfl))) (pv 2)) (pe_lst (pa_cons pe_int (pa_cons (pe_op op_sub (pv 2) pe_int) pa_nil))) (by rfl)))))
        (pss_one (ps_asg (pe_tup (pa_cons (pe_ix ix_list (pv 5) (pe_op op_add (pv 7) pe_int) (fun _ _ => rfl)) (pa_cons (pe_ix ix_list (pv 5) (pv 7) (fun _ _ => rfl)) pa_nil))) (pg_tup rfl (pgs_cons (pg_sub (pv 5) (pv 7) set_list) (pgs_cons (pg_sub (pv 5) (pe_op op_add (pv 7) pe_int) set_list) pgs_nil)))))
        (pss_one (ps_if (pt_cmpR op_eq (pv 7) (pe_op op_sub (pv 2) pe_int) (nomark _))
          (pss_one (ps_set (i := 5) sc_Lothers.nd rfl (Or.inl rfl) (pe_ifExp (pt_cmpR op_eq (pe_op op_mod (pv 6) pe_int) pe_int (nomark _)) (pe_op op_cat (pe_slice sl_list (pv 5) (po_some pe_int) po_none) (pe_slice sl_list (pv 5) po_none (po_some pe_int))) (pe_op op_cat (pe_slice sl_list (pv 5) (po_some (pe_un un_neg pe_int)) po_none) (pe_slice sl_list (pv 5) po_none (po_some (pe_un un_neg pe_int)))))))
          pss_nil))))))
    (pss_cons (ps_set (i := 8) sc_Lothers.nd rfl (Or.inl rfl) (pe_callG (ok_Lmixed T) (hr.mono (by decide)) gd rfl T.m_Lmixed T.F_Lmixed.kp T.b_Lmixed .nil pass0 (pa_cons (pv 0) (pa_cons (pv 1) pa_nil))))
    (pss_one (ps_ret (pe_lst (pa_cons (pv 4) (pa_cons (pv 5) (pa_cons (pv 8) (pa_cons (pe_revL (pv 1)) (pa_cons (pe_lc (own := [("_law_call", 9)]) (g := gName 9) (tt := tYes) rfl sc_Lothers.nd (pi_list (pv 5)) (blkOk_by (N := ["_law_draws_here", "_law_order", "_law_many", "_law_by", "_law_shifted", "_law_bent", "_law_turn", "_law_at", "_law_mixed_here", "_law_call"]) (sc := defScope s_Lothers) (by decide +kernel)) (fun _ _ _ _ _ => (pg_name (i := 9) sc_Lothers.nd rfl (Or.inl rfl))) (fun _ _ _ _ _ => pts_nil) (fun _ _ _ _ _ => (pe_op op_add (pe_op op_mod (pe_op op_sub (pe_op op_add (pv 9) (pv 3)) pe_int) (pv 2)) pe_int))) pa_nil)))))))))))))), ?_⟩
    rw [show start ["_law_draws_here", "_law_order", "_law_many", "_law_by", "_law_shifted", "_law_bent", "_law_turn", "_law_at", "_law_mixed_here", "_law_call"] [.ref a, .ref p] = [some (.ref a), some (.ref p), none, none, none, none, none, none, none, none] from rfl]
    walk_at "go"
    rw [List.length_map, lo]
    refine ⟨a, m, rfl, hD, by omega, fun r1 H1 r10 r11 k1 d1 => ?_⟩
    walk_at "go"
    generalize 1 + r1 % ((n : Int) - 1) = b
    have hp1 := k1.lst (nin1 hpa) hp
    refine g_lc (walk_list (xs := o.map V.int)) (w0 := [some (.ref a), some (.ref p), some (.int n), some (.int b), none, none, none, none, none, none]) rfl fun D hD1 => ⟨fun j G => G D = some (.lst (((o.map fun c => wrp n (c + b)).take j).map V.int)) ∧ Kp [] H1 G, ⟨upd_same, (Kp.refl _ _).put hD1⟩, fun _ _ _ h => SqL.of (h.2.lst nin0 hp1), ?_, ?_⟩
    · rintro j x G G' hj ⟨hG, hK⟩ ⟨rfl, hx⟩
      rw [List.getElem?_map] at hx
      obtain ⟨c, hc, rfl⟩ := Option.map_eq_some_iff.mp hx
      rw [List.length_map] at hj
      walk_at "go"
      refine g_kLg rfl ?_
      walk_at "go"
      refine g_kLe hG (triv_szl (by rw [List.length_map, List.length_take, List.length_map]; omega)) ⟨?_, hK.put hD1⟩
      have e : (o.map fun c => wrp n (c + b))[j]? = some ((c + b - 1) % n + 1) := by rw [List.getElem?_map, hc]; rfl
      rw [take_succ' e, List.map_append]
      exact upd_same
    rintro G ⟨hG, hK⟩
    rw [List.length_map, List.take_of_length_le (by rw [List.length_map]; exact Nat.le_refl _)] at hG
    have hS4 := stand_shift (by omega) hS b
    generalize (o.map fun c => wrp n (c + b)) = o4 at *
    have D0 : H D = none := k1.free hD1
    have Da : D ≠ a := fun z => Ha (by rw [← z]; exact D0)
    have k2 := k1.trans hK.any
    have d2 := d1.kp hK
    have hp2 := k2.lst (nin1 hpa) hp
    clear hK k1 d1 hp1
    walk_at "go"
    rename_i t ht
    have ta : t ≠ a := fun z => d2.ne (by rw [← z]; exact ht)
    have t0 : H t = none := k2.free ht
    have k3 : Kp [] G (upd G t (.lst (o.map V.int))) := Kp.new ht
    have d3 := d2.kp k3
    have e3 : upd G t (.lst (o.map V.int)) t = some (.lst (o.map V.int)) := upd_same
    have e4 := k3.lst nin0 hG
    have k3 := k2.trans k3.any
    have Dt : D ≠ t := ne_of_none hG ht
    generalize upd G t (.lst (o.map V.int)) = G0 at *
    clear ht hG hp2 d2 k2
    refine ⟨a, m + 1, rfl, d3, by omega, fun r2 H2 r20 r21 k4 d4 => ?_⟩
    walk_at "go"
    have b0 := Int.emod_nonneg r2 (b := 40) (by omega)
    have b1 := Int.emod_lt_of_pos r2 (b := 40) (by omega)
    obtain ⟨kk, ekk⟩ : ∃ kk : Nat, (r2 % 40).toNat = kk := ⟨_, rfl⟩
    have kk40 : kk ≤ 40 := by omega
    rw [ekk]
    have k5 := k3.trans k4
    have e5 := k4.lst (nin1 Da) e4
    refine g_forR (fun i σ' G => ∃ x6 x7 B t, σ' = [some (.ref a), some (.ref p), some (.int n), some (.int b), some (.ref D), some (.ref t), x6, x7, none, none] ∧ Stand n B ∧ G t = some (.lst (B.map V.int)) ∧ H t = none ∧ t ≠ D ∧ t ≠ a ∧ G D = some (.lst (o4.map V.int)) ∧ Kp [a] H G ∧ Draws a (m + 2 + i) G)
      ⟨_, _, o, t, rfl, hS, k4.lst (nin1 ta) e3, t0, Ne.symm Dt, ta, e5, k5, d4⟩ ?_ ?_
    · clear k3 k4 k5 e5 e4 e3 d3 d4 t0 Dt ta
      rintro i σ' G hi ⟨x6, x7, B, t, rfl, hB, hBt, t0, tD, ta, eD, hK, hd⟩
      have lB := hB.length
      walk_at "go"
      refine ⟨a, m + 2 + i, rfl, hd, by omega, fun r3 G1 r30 r31 k6 d6 => ?_⟩
      have hBt := k6.lst (nin1 ta) hBt
      have eD := k6.lst (nin1 Da) eD
      have hK := hK.trans k6
      clear k6 hd
      have f0 := Int.emod_nonneg r3 (b := n) (by omega)
      have f1 := Int.emod_lt_of_pos r3 (b := n) (by omega)
      obtain ⟨at', eat⟩ : ∃ k : Nat, r3 % (n : Int) = k := ⟨(r3 % (n : Int)).toNat, by omega⟩
      rw [eat] at f1
      walk_at "go"
      rw [eat]
      have same : ∀ {x7 : Option V}, (fun i σ' G => ∃ x6 x7 B t, σ' = [some (.ref a), some (.ref p), some (.int n), some (.int b), some (.ref D), some (.ref t), x6, x7, none, none] ∧ Stand n B ∧ G t = some (.lst (B.map V.int)) ∧ H t = none ∧ t ≠ D ∧ t ≠ a ∧ G D = some (.lst (o4.map V.int)) ∧ Kp [a] H G ∧ Draws a (m + 2 + i) G) (i + 1) [some (.ref a), some (.ref p), some (.int n), some (.int b), some (.ref D), some (.ref t), some (.int (0 + (i : Int))), x7, none, none] G1 := fun {x7} => ⟨_, _, B, t, rfl, hB, hBt, t0, tD, ta, eD, hK, d6⟩
      walk_at "go"
      refine g_kD (fun e1 => ?_) (fun e1 => ?_)
      · have h1 : B[at']? = some B[at'] := List.getElem?_eq_getElem (by omega)
        have h2 : B[at' + 1]? = some B[at' + 1] := List.getElem?_eq_getElem (by omega)
        generalize B[at'] = c at h1
        generalize B[at' + 1] = dd at h2
        have at1 : atI (B.map V.int) (at' : Int) = some (.int c) := atI_of rfl (by rw [List.getElem?_map, h1]; rfl)
        have at2 : atI (B.map V.int) ((at' : Int) + 1) = some (.int dd) := atI_of (n := at' + 1) (by omega) (by rw [List.getElem?_map, h2]; rfl)
        walk_at "go"
        rename_i nl hnl
        have tn : t ≠ nl := ne_of_none hBt hnl
        have Dn : D ≠ nl := ne_of_none eD hnl
        have k7 : Kp [] G1 (upd G1 nl (.lst [.int 1, .int ((n : Int) - 1)])) := Kp.new hnl
        have hBt := k7.lst nin0 hBt
        have eD := k7.lst nin0 eD
        have hK := hK.trans k7.any
        have d6 := d6.kp k7
        generalize upd G1 nl (.lst [.int 1, .int ((n : Int) - 1)]) = G4 at *
        clear k7 hnl
        refine g_kB (fun _ => ?_) (fun _ => ?_)
        · walk_at "go"
          rename_i Tp hTp
          have tT : t ≠ Tp := ne_of_none hBt hTp
          have DT : D ≠ Tp := ne_of_none eD hTp
          refine g_setL (xs := B.map V.int) (n := at') ((upd_ne tT).trans hBt) (ixN_of rfl (by rw [List.length_map]; omega)) ?_
          walk_at "go"
          refine g_setL (xs := (B.map V.int).set at' (.int dd)) (n := at' + 1) upd_same (ixN_of (by omega) (by rw [List.length_set, List.length_map]; omega)) ?_
          walk_at "go"
          obtain ⟨l, r', rfl, hl⟩ := splt h1 h2
          refine ⟨_, _, l ++ dd :: c :: r', t, rfl, stand_swap hB, ?_, t0, tD, ta, ?_, ((hK.put (hK.free hTp)).put t0).put t0, ?_⟩
          · rw [upd_same, ← sswap l r' c dd, hl, List.map_set, List.map_set]
          · rw [upd_ne (Ne.symm tD), upd_ne (Ne.symm tD), upd_ne DT]
            exact eD
          · exact ((d6.new hTp).put (Ne.symm ta)).put (Ne.symm ta)
        · walk_at "go"
          refine g_kD (fun e2 => ?_) (fun e2 => ?_)
          · omega
          · exact ⟨_, _, B, t, rfl, hB, hBt, t0, tD, ta, eD, hK, d6⟩
      · walk_at "go"
        refine g_kD (fun e2 => ?_) (fun e2 => ?_)
        · walk_at "go"
          refine g_kD (fun e3 => ?_) (fun e3 => ?_)
          · walk_at "go"
            rename_i q1 hq1 q2 hq2
            have es1 : cutV (B.map V.int) (some 1) none = (B.drop 1).map V.int := by rw [cut_from (i := 1) (k := 1) rfl, List.map_drop]
            have es2 : cutV (B.map V.int) none (some 1) = (B.take 1).map V.int := by rw [cut_any (i := 1) (k := 1) rfl, List.map_take]
            rw [es1] at hq2
            rw [es1, es2]
            have k7 : Kp [] G1 (upd (upd G1 q1 (.lst ((B.drop 1).map V.int))) q2 (.lst ((B.take 1).map V.int))) := (Kp.new hq1).trans (Kp.new hq2)
            have e1' : upd (upd G1 q1 (.lst ((B.drop 1).map V.int))) q2 (.lst ((B.take 1).map V.int)) q1 = some (.lst ((B.drop 1).map V.int)) := (upd_ne (ne_of_none upd_same hq2)).trans upd_same
            refine g_catK e1' upd_same (by rw [List.length_drop, List.length_take]; omega) fun q3 G5 q30 k8 e8 => ?_
            have q3D : q3 ≠ D := Ne.symm (ne_of_none (k7.lst nin0 eD) q30)
            have q3a : q3 ≠ a := fun z => (d6.kp k7).ne (by rw [← z]; exact q30)
            have k9 := k7.trans k8
            walk_at "go"
            exact ⟨_, _, _, q3, rfl, stand_cut hB _, e8, hK.free (k7.free q30), q3D, q3a, k9.lst nin0 eD, hK.trans k9.any, d6.kp k9⟩
          · walk_at "go"
            rename_i q1 hq1 q2 hq2
            have es1 : cutV (B.map V.int) (some (-1)) none = (B.drop (B.length - 1)).map V.int := cut_last B
            have es2 : cutV (B.map V.int) none (some (-1)) = (B.take (B.length - 1)).map V.int := cut_butlast B
            rw [es1] at hq2
            rw [es1, es2]
            have k7 : Kp [] G1 (upd (upd G1 q1 (.lst ((B.drop (B.length - 1)).map V.int))) q2 (.lst ((B.take (B.length - 1)).map V.int))) := (Kp.new hq1).trans (Kp.new hq2)
            have e1' : upd (upd G1 q1 (.lst ((B.drop (B.length - 1)).map V.int))) q2 (.lst ((B.take (B.length - 1)).map V.int)) q1 = some (.lst ((B.drop (B.length - 1)).map V.int)) := (upd_ne (ne_of_none upd_same hq2)).trans upd_same
            refine g_catK e1' upd_same (by rw [List.length_drop, List.length_take]; omega) fun q3 G5 q30 k8 e8 => ?_
            have q3D : q3 ≠ D := Ne.symm (ne_of_none (k7.lst nin0 eD) q30)
            have q3a : q3 ≠ a := fun z => (d6.kp k7).ne (by rw [← z]; exact q30)
            have k9 := k7.trans k8
            walk_at "go"
            exact ⟨_, _, _, q3, rfl, stand_cut hB _, e8, hK.free (k7.free q30), q3D, q3a, k9.lst nin0 eD, hK.trans k9.any, d6.kp k9⟩
        · exact ⟨_, _, B, t, rfl, hB, hBt, t0, tD, ta, eD, hK, d6⟩
    · rintro σ' G ⟨x6, x7, B, t, rfl, hB, hBt, t0, tD, ta, eD, hK, hd⟩
      walk_at "go"
      have hp3 := hK.lst (nin1 hpa) hp
      refine ⟨a, p, m + 2 + kk, o.map V.int, rfl, hd, hp3, hpa, by rw [List.length_map]; omega, by rw [List.length_map]; omega, fun mp ys G2 mp0 perm k6 d6 em => ?_⟩
      obtain ⟨o8, rfl, ho8⟩ := ints_perm perm
      have ho8 : Stand n o8 := ho8.trans hS
      rw [List.length_map, lo] at d6
      have mp0 : H mp = none := hK.free mp0
      have hBt := k6.lst (nin1 ta) hBt
      have eD := k6.lst (nin1 Da) eD
      have hp4 := k6.lst (nin1 hpa) hp3
      have hK := hK.trans k6
      clear k6 hd hp3
      walk_at "go"
      rename_i rv hrv
      have k7 : Kp [] G2 (upd G2 rv (.lst (o.map V.int).reverse)) := Kp.new hrv
      have erv : upd G2 rv (.lst (o.map V.int).reverse) rv = some (.lst (o.reverse.map V.int)) := by rw [List.map_reverse]; exact upd_same
      have rv0 : H rv = none := hK.free hrv
      have em := k7.lst nin0 em
      have hBt := k7.lst nin0 hBt
      have eD := k7.lst nin0 eD
      have hK := hK.trans k7.any
      have d7 := d6.kp k7
      generalize upd G2 rv (.lst (o.map V.int).reverse) = G3 at *
      clear k7 hrv hp4 d6
      refine g_lc (walk_list (xs := B.map V.int)) (w0 := [some (.ref a), some (.ref p), some (.int n), some (.int b), some (.ref D), some (.ref t), x6, x7, some (.ref mp), none]) rfl fun F hF1 => ⟨fun j G => G F = some (.lst (((B.map fun c => wrp n (c + b)).take j).map V.int)) ∧ Kp [] G3 G, ⟨upd_same, (Kp.refl _ _).put hF1⟩, fun _ _ _ h => SqL.of (h.2.lst nin0 hBt), ?_, ?_⟩
      · rintro j x G G' hj ⟨hG, hK⟩ ⟨rfl, hx⟩
        rw [List.getElem?_map] at hx
        obtain ⟨c, hc, rfl⟩ := Option.map_eq_some_iff.mp hx
        rw [List.length_map] at hj
        have lB := hB.length
        walk_at "go"
        refine g_kLg rfl ?_
        walk_at "go"
        refine g_kLe hG (triv_szl (by rw [List.length_map, List.length_take, List.length_map]; omega)) ⟨?_, hK.put hF1⟩
        have e : (B.map fun c => wrp n (c + b))[j]? = some ((c + b - 1) % n + 1) := by rw [List.getElem?_map, hc]; rfl
        rw [take_succ' e, List.map_append]
        exact upd_same
      rintro G4 ⟨hG4, hK4⟩
      rw [List.length_map, List.take_of_length_le (by rw [List.length_map]; exact Nat.le_refl _)] at hG4
      have hS5 := stand_shift (by omega) hB b
      generalize (B.map fun c => wrp n (c + b)) = o5 at *
      have F0 : H F = none := hK.free hF1
      have d8 := d7.kp hK4
      have em := hK4.lst nin0 em
      have hBt := hK4.lst nin0 hBt
      have eD := hK4.lst nin0 eD
      have erv := hK4.lst nin0 erv
      have hK := hK.trans hK4.any
      walk_at "go"
      rename_i L hL
      have k9 : Kp [] G4 (upd G4 L (.lst [.ref D, .ref t, .ref mp, .ref rv, .ref F])) := Kp.new hL
      refine q L [D, t, mp, rv, F] _ (hK.free hL) (hK.trans k9.any) ((d8.kp k9).mono (by omega)) upd_same ?_
      intro p' hp'
      simp only [List.mem_cons, List.not_mem_nil, or_false] at hp'
      rcases hp' with rfl | rfl | rfl | rfl | rfl
      · exact ⟨D0, o4, hS4, k9.lst nin0 eD⟩
      · exact ⟨t0, B, hB, k9.lst nin0 hBt⟩
      · exact ⟨mp0, o8, ho8, k9.lst nin0 em⟩
      · exact ⟨rv0, _, hS.rev, k9.lst nin0 erv⟩
      · exact ⟨F0, o5, hS5, k9.lst nin0 hG4⟩
end
end Ap


namespace Ap
open PySem L2 PySem.Spec PyProof.Rows
/-- who sits where: for each person, from 1 on, the seat; 0 ahead -/
def whr (n : Nat) (row : List Int) : List Int := 0 :: (up n).map (seat row)
theorem whr_len {n : Nat} {row : List Int} : (whr n row).length = n + 1 := by unfold whr; rw [List.length_cons, List.length_map, up_length]
theorem up_get {n k : Nat} (h : k < n) : (up n)[k]? = some ((k : Int) + 1) := by unfold up; simp [h]; omega
theorem whr_at {n : Nat} {row : List Int} {p : Int} (h : p ∈ up n) : (whr n row)[p.toNat]? = some (seat row p) := by
  have b := up_mem.mp h
  obtain ⟨k, rfl⟩ : ∃ k : Nat, p = (k : Int) + 1 := ⟨(p - 1).toNat, by omega⟩
  rw [show ((k : Int) + 1).toNat = k + 1 by omega]
  show ((up n).map (seat row))[k]? = _
  rw [List.getElem?_map, up_get (by omega)]
  rfl
theorem map_put {row : List Int} {f g : Int → Int} {k : Nat} {z : Int} (nd : row.Nodup) (hz : row[k]? = some z) (h : ∀ p ∈ row, p ≠ z → g p = f p) : (row.map f).set k (g z) = row.map g := by
  apply List.ext_getElem?
  intro j
  rw [List.getElem?_set, List.getElem?_map, List.getElem?_map]
  by_cases e : k = j
  · subst e
    have := (List.getElem?_eq_some_iff.mp hz).1
    rw [if_pos rfl, if_pos (by rw [List.length_map]; exact this), hz]
    rfl
  · rw [if_neg e]
    cases q : row[j]? with
    | none => rfl
    | some p =>
      have : p ≠ z := fun w => e (by rw [← idxOf_at nd hz, ← idxOf_at nd q, w])
      show some (f p) = some (g p)
      rw [h p (List.mem_of_getElem? q) this]
/-- the seats of the first i of a row -/
def whrTo (n : Nat) (row : List Int) (i : Nat) : List Int := 0 :: (up n).map fun p => if p ∈ row.take i then seat row p else 0
theorem whrTo_set {n i : Nat} {row : List Int} {z : Int} (hr : Stand n row) (hz : row[i]? = some z) : (whrTo n row i).set z.toNat ((i : Int) + 1) = whrTo n row (i + 1) := by
  have zin := hr.mem.mp (List.mem_of_getElem? hz)
  have b := up_mem.mp zin
  obtain ⟨k, rfl⟩ : ∃ k : Nat, z = (k : Int) + 1 := ⟨(z - 1).toNat, by omega⟩
  unfold whrTo
  rw [show ((k : Int) + 1).toNat = k + 1 by omega, List.set_cons_succ]
  congr 1
  have e : (if ((k : Int) + 1) ∈ row.take (i + 1) then seat row ((k : Int) + 1) else 0) = (i : Int) + 1 := by
    rw [if_pos (by rw [take_succ' hz]; simp), seat_at hr.nodup hz]
  rw [← e]
  refine map_put (g := fun p => if p ∈ row.take (i + 1) then seat row p else 0) (up_nodup n) (up_get (by omega)) fun p _ hp => ?_
  rw [take_succ' hz]
  simp [hp]
theorem whrTo_all {n : Nat} {row : List Int} (hr : Stand n row) : whrTo n row n = whr n row := by
  unfold whrTo whr
  rw [List.take_of_length_le (by rw [hr.length]; exact Nat.le_refl _)]
  congr 1
  exact List.map_congr_left fun p hp => if_pos (hr.mem.mpr hp)
theorem whrTo_none {n : Nat} {row : List Int} : whrTo n row 0 = List.replicate (n + 1) 0 := by
  unfold whrTo
  rw [List.replicate_succ]
  congr 1
  apply List.ext_getElem?
  intro j
  rw [List.getElem?_map, List.getElem?_replicate]
  by_cases h : j < n
  · rw [up_get h, if_pos h]; simp
  · rw [if_neg h, List.getElem?_eq_none (by rw [up_length]; omega)]; rfl
theorem whrTo_len {n i : Nat} {row : List Int} : (whrTo n row i).length = n + 1 := by unfold whrTo; rw [List.length_cons, List.length_map, up_length]
/-- the first i people at their seats -/
def sitTo (row : List Int) (i : Nat) : List Int := row.map fun p => if p ≤ (i : Int) then p else 0
theorem sitTo_set {n i : Nat} {row : List Int} (hr : Stand n row) (hi : i < n) : (sitTo row i).set (row.idxOf ((i : Int) + 1)) ((i : Int) + 1) = sitTo row (i + 1) := by
  have hz := at_idxOf (hr.mem.mpr (up_mem.mpr (show 1 ≤ (i : Int) + 1 ∧ (i : Int) + 1 ≤ n by omega)))
  have e : (if ((i : Int) + 1) ≤ ((i + 1 : Nat) : Int) then ((i : Int) + 1) else 0) = (i : Int) + 1 := if_pos (by omega)
  have := map_put (f := fun p => if p ≤ (i : Int) then p else 0) (g := fun p => if p ≤ ((i + 1 : Nat) : Int) then p else 0) hr.nodup hz fun p _ hp => by
    by_cases h : p ≤ i
    · rw [if_pos h, if_pos (by omega)]
    · rw [if_neg h, if_neg (by omega)]
  rw [e] at this
  exact this
theorem sitTo_none {n : Nat} {row : List Int} (hr : Stand n row) : sitTo row 0 = List.replicate n 0 := by
  unfold sitTo
  rw [← hr.length]
  apply List.ext_getElem?
  intro j
  rw [List.getElem?_map, List.getElem?_replicate]
  cases q : row[j]? with
  | none => rw [if_neg (by have := List.getElem?_eq_none_iff.mp q; omega)]; rfl
  | some p =>
    have := up_mem.mp (hr.mem.mp (List.mem_of_getElem? q))
    rw [if_pos (List.getElem?_eq_some_iff.mp q).1]
    show some (if p ≤ ((0 : Nat) : Int) then p else 0) = _
    rw [if_neg (by omega)]
theorem sitTo_all {n : Nat} {row : List Int} (hr : Stand n row) : sitTo row n = row := by
  unfold sitTo
  conv => rhs; rw [← List.map_id row]
  exact List.map_congr_left fun p hp => if_pos (up_mem.mp (hr.mem.mp hp)).2
def spWhere : Sp := fun vs H Q _ => ∃ (rp : Addr) (n : Nat) (row : List Int), vs = [.ref rp] ∧ H rp = some (.lst (row.map V.int)) ∧ n ≤ 40 ∧ Stand n row ∧ ∀ q H', H q = none → Kp [] H H' → H' q = some (.lst ((whr n row).map V.int)) → Q (.ref q) H'
def spSitting : Sp := fun vs H Q _ => ∃ (wp : Addr) (n : Nat) (row : List Int), vs = [.ref wp] ∧ H wp = some (.lst ((whr n row).map V.int)) ∧ n ≤ 40 ∧ Stand n row ∧ ∀ q H', H q = none → Kp [] H H' → H' q = some (.lst (row.map V.int)) → Q (.ref q) H'
section
variable {P : Program} {w : World} {K : PySem.W.Frag} {mg : Str → Option Value} {base : Heap}
theorem ok_Lwhere (T : Txt K mg base) : FnG P w K mg base CX0 1 T.a_Lwhere T.fd_Lwhere ["_law_standing"] spWhere := by
  refine fnG_of0 T.F_Lwhere sc_Lwhere (fun vs H Q E h => ?_) (fun cdv A outer s H vs Q E hcd hr gd h => ?_)
  · obtain ⟨rp, n, row, rfl, _⟩ := h
    rfl
  · obtain ⟨rp, n, row, rfl, hp, hi, hrow, q⟩ := h
    have ln := hrow.length
    refine ⟨_, (pss_cons (ps_set (i := 1) sc_Lwhere.nd rfl (Or.inl rfl) (pe_op op_rep (pe_lst (pa_cons pe_int pa_nil)) (pe_op op_add (pe_callB cr_len (by rfl) T.n_len (by decide +kernel) (pa_cons (pv 0) pa_nil)) pe_int)))
    (pss_cons (ps_for PassesOwn.never rfl (pi_enum (by rfl) T.n_enumerate (pa_cons (pv 0) pa_nil)) (pg_tup rfl (pgs_cons (pg_name (i := 2) sc_Lwhere.nd rfl (Or.inl rfl)) (pgs_cons (pg_name (i := 3) sc_Lwhere.nd rfl (Or.inl rfl)) pgs_nil)))
      (pss_one (ps_asg (pe_op op_add (pv 2) pe_int) (pg_sub (pv 1) (pv 3) set_list))))
    (pss_one (ps_ret (pv 1))))), ?_⟩
    rw [show start ["_law_standing", "_law_told", "_law_at", "_law_person"] [.ref rp] = [some (.ref rp), none, none, none] from rfl]
    walk_at "go"
    rename_i zp hz
    rw [List.length_map, ln]
    refine g_mul upd_same (by omega) (by omega) (by show 1 * _ ≤ _; omega) fun tp ht => ?_
    have htp0 : H tp = none := ((Kp.refl [] H).put hz).free ht
    rw [show ((n : Int) + 1).toNat = n + 1 by omega, zeros, ← whrTo_none (row := row)]
    have k0 : Kp [] H (upd (upd H zp (.lst [.int 0])) tp (.lst ((whrTo n row 0).map V.int))) := ((Kp.refl _ _).put hz).put htp0
    have e0 : upd (upd H zp (HO.lst [V.int 0])) tp (HO.lst ((whrTo n row 0).map V.int)) tp = some (.lst ((whrTo n row 0).map V.int)) := upd_same
    generalize upd (upd H zp (HO.lst [V.int 0])) tp (HO.lst ((whrTo n row 0).map V.int)) = H1 at *
    walk_at "go"
    refine g_it (walk_enum (xs := row.map V.int)) (fun i σ' H' => ∃ x2 x3, σ' = [some (.ref rp), some (.ref tp), x2, x3] ∧ Kp [] H H' ∧ H' tp = some (.lst ((whrTo n row i).map V.int)))
      ⟨_, _, rfl, k0, e0⟩ (fun i σ' H' _ h => ?_) ?_ ?_
    · obtain ⟨_, _, _, h, _⟩ := h
      exact SqL.of (h.lst nin0 hp)
    · rintro i x σ' H' H'' hi ⟨x2, x3, rfl, hK, ht'⟩ ⟨Tp, xi, y, rfl, hTp, rfl, hx1, hx2⟩
      cases hx1
      have hx2 : (row.map V.int)[i]? = some y := hx2
      rw [List.getElem?_map] at hx2
      obtain ⟨z, hz', rfl⟩ := Option.map_eq_some_iff.mp hx2
      have b := up_mem.mp (hrow.mem.mp (List.mem_of_getElem? hz'))
      have tT : tp ≠ Tp := ne_of_none ht' hTp
      walk_at "go"
      refine g_setL (xs := (whrTo n row i).map V.int) (n := z.toNat) (by walk_at "look") (ixN_of (by omega) (by rw [List.length_map, whrTo_len]; omega)) ?_
      rw [show V.int ((i : Int) + 1) = V.int ((i : Int) + 1) from rfl, ← List.map_set, whrTo_set hrow hz']
      walk_at "go"
      exact ⟨_, _, rfl, (hK.put (hK.free hTp)).put htp0, upd_same⟩
    · rintro σ' H' ⟨x2, x3, rfl, hK, ht'⟩
      rw [List.length_map, ln, whrTo_all hrow] at ht'
      walk_at "go"
      exact q tp H' htp0 hK ht'
theorem ok_Lsitting (T : Txt K mg base) : FnG P w K mg base CX0 1 T.a_Lsitting T.fd_Lsitting ["_law_where_here"] spSitting := by
  refine fnG_of0 T.F_Lsitting sc_Lsitting (fun vs H Q E h => ?_) (fun cdv A outer s H vs Q E hcd hr gd h => ?_)
  · obtain ⟨rp, n, row, rfl, _⟩ := h
    rfl
  · obtain ⟨wp, n, row, rfl, hp, hi, hrow, q⟩ := h
    have ln := hrow.length
    refine ⟨_, (pss_cons (ps_set (i := 1) sc_Lsitting.nd rfl (Or.inl rfl) (pe_op op_rep (pe_lst (pa_cons pe_int pa_nil)) (pe_op op_sub (pe_callB cr_len (by rfl) T.n_len (by decide +kernel) (pa_cons (pv 0) pa_nil)) pe_int)))
    (pss_cons (ps_for PassesOwn.never rfl (pi_range2 (by rfl) T.n_range (pa_cons pe_int (pa_cons (pe_callB cr_len (by rfl) T.n_len (by decide +kernel) (pa_cons (pv 0) pa_nil)) pa_nil))) (pg_name (i := 2) sc_Lsitting.nd rfl (Or.inl rfl))
      (pss_one (ps_asg (pv 2) (pg_sub (pv 1) (pe_op op_sub (pe_ix ix_list (pv 0) (pv 2) (fun _ _ => rfl)) pe_int) set_list))))
    (pss_one (ps_ret (pv 1))))), ?_⟩
    rw [show start ["_law_where_here", "_law_told", "_law_person"] [.ref wp] = [some (.ref wp), none, none] from rfl]
    walk_at "go"
    rename_i zp hz
    rw [List.length_map, whr_len]
    refine g_mul upd_same (by omega) (by omega) (by show 1 * _ ≤ _; omega) fun tp ht => ?_
    have htp0 : H tp = none := ((Kp.refl [] H).put hz).free ht
    rw [show (((n + 1 : Nat) : Int) - 1).toNat = n by omega, zeros, ← sitTo_none hrow]
    have k0 : Kp [] H (upd (upd H zp (.lst [.int 0])) tp (.lst ((sitTo row 0).map V.int))) := ((Kp.refl _ _).put hz).put htp0
    have e0 : upd (upd H zp (HO.lst [V.int 0])) tp (HO.lst ((sitTo row 0).map V.int)) tp = some (.lst ((sitTo row 0).map V.int)) := upd_same
    generalize upd (upd H zp (HO.lst [V.int 0])) tp (HO.lst ((sitTo row 0).map V.int)) = H1 at *
    have hp1 := k0.lst nin0 hp
    walk_at "go"
    rw [List.length_map, whr_len]
    walk_at "go"
    rw [show (((n + 1 : Nat) : Int) - 1).toNat = n by omega]
    refine g_forR (fun i σ' H' => ∃ x2, σ' = [some (.ref wp), some (.ref tp), x2] ∧ Kp [] H H' ∧ H' tp = some (.lst ((sitTo row i).map V.int)))
      ⟨_, rfl, k0, e0⟩ ?_ ?_
    · rintro i σ' H' hi ⟨x2, rfl, hK, ht'⟩
      have cin : (1 + (i : Int)) ∈ up n := up_mem.mpr (by omega)
      have w1 := whr_at (row := row) cin
      have sp := seat_pos hrow cin
      have hw := hK.lst nin0 hp
      have lx : row.idxOf (1 + (i : Int)) < n := by unfold seat at sp; omega
      have at1 : atI ((whr n row).map V.int) (1 + (i : Int)) = some (.int (seat row (1 + i))) := atI_of (n := (1 + (i : Int)).toNat) (by omega) (by rw [List.getElem?_map, w1]; rfl)
      walk_at "go"
      refine g_setL (xs := (sitTo row i).map V.int) (n := row.idxOf (1 + (i : Int))) ht' (ixN_of (by unfold seat; omega) (by unfold sitTo; rw [List.length_map, List.length_map, ln]; exact lx)) ?_
      rw [← List.map_set, show (1 + (i : Int)) = (i : Int) + 1 by omega, sitTo_set hrow hi]
      walk_at "go"
      exact ⟨_, rfl, hK.put htp0, upd_same⟩
    · rintro σ' H' ⟨x2, rfl, hK, ht'⟩
      rw [sitTo_all hrow] at ht'
      walk_at "go"
      exact q tp H' htp0 hK ht'
end
end Ap


namespace Ap
open PySem L2 PySem.Spec PyProof.Rows
/-- the law's own dict of the tied pairs -/
def TNear (d : Addr) (ts : List Tie) (H : Hp) : Prop := ∃ kvs : List (List Key × V), H d = some (.dT kvs) ∧ ∀ x y : Int, (valV kvs [Sum.inl x, Sum.inl y]).isSome = decide (Tied ts x y)
theorem TNear.kp {d : Addr} {ts : List Tie} {H H' : Hp} (h : TNear d ts H) (k : Kp [] H H') : TNear d ts H' := by
  obtain ⟨kvs, h1, h2⟩ := h
  exact ⟨kvs, k.look nin0 h1 (ntb rfl), h2⟩
theorem TNear.kpS {d : Addr} {ts : List Tie} {H H' : Hp} {S : List Addr} (h : TNear d ts H) (k : Kp S H H') (n : d ∉ S) : TNear d ts H' := by
  obtain ⟨kvs, h1, h2⟩ := h
  exact ⟨kvs, k.look n h1 (ntb rfl), h2⟩
def spNearL : Sp := fun vs H Q _ => ∃ (v : V) (ts : List Tie), vs = [v] ∧ Nt H v ts ∧ ts.length ≤ 1000 ∧ ∀ d H', Kp [] H H' → H d = none → TNear d ts H' → Q (.ref d) H'
def spMoved : Sp := fun vs H Q _ => ∃ (dp rp cp : Addr) (n : Nat) (ts : List Tie) (row cs : List Int), vs = [.ref dp, .ref rp, .ref cp] ∧ TNear dp ts H ∧ H rp = some (.lst (row.map V.int)) ∧ H cp = some (.lst (cs.map V.int)) ∧
  2 ≤ n ∧ n ≤ 40 ∧ Stand n row ∧ (∀ c ∈ cs, c ∈ up n) ∧ ∀ q H', H q = none → Kp [] H H' → H' q = some (.lst ((moved ts n row cs).map V.int)) → Q (.ref q) H'
section
variable {P : Program} {w : World} {K : PySem.W.Frag} {mg : Str → Option Value} {base : Heap}
theorem ok_Lnear (T : Txt K mg base) : FnG P w K mg base CX0 1 T.a_Lnear T.fd_Lnear ["_law_ties"] spNearL := by
  refine fnG_of0 T.F_Lnear sc_Lnear (fun vs H Q E h => ?_) (fun cdv A outer s H vs Q E hcd hr gd h => ?_)
  · obtain ⟨v, ts, rfl, _⟩ := h
    rfl
  · obtain ⟨v, ts, rfl, hN, few, q⟩ := h
    obtain ⟨p, xs, rfl, -, hp, hA⟩ := hN.list_inv
    have lx : xs.length = ts.length := by rw [hA.length, List.length_map]
    refine ⟨_, (pss_cons (ps_set (i := 1) sc_Lnear.nd rfl (Or.inl rfl) pe_dnewT)
    (pss_cons (ps_for PassesOwn.never rfl (pi_list (pv 0)) (pg_lst rfl (pgs_cons (pg_name (i := 2) sc_Lnear.nd rfl (Or.inl rfl)) (pgs_cons (pg_name (i := 3) sc_Lnear.nd rfl (Or.inl rfl)) pgs_nil)))
      (pss_cons (ps_dput hr.u1 (pv 1) (pe_tup (pa_cons (pv 2) (pa_cons (pv 3) pa_nil))) pe_bl rfl)
      (pss_one (ps_dput hr.u1 (pv 1) (pe_tup (pa_cons (pv 3) (pa_cons (pv 2) pa_nil))) pe_bl rfl))))
    (pss_one (ps_ret (pv 1))))), ?_⟩
    rw [show start ["_law_ties", "_law_near_here", "_law_one", "_law_two"] [.ref p] = [some (.ref p), none, none, none] from rfl]
    walk_at "go"
    refine g_dnewT fun d hd => ?_
    walk_at "go"
    refine g_forL (xs := xs) (fun i σ' H' => ∃ x2 x3, ∃ kvs : List (List Key × V), σ' = [some (.ref p), some (.ref d), x2, x3] ∧ Kp [] H H' ∧ H' d = some (.dT kvs) ∧ kvs.length ≤ 2 * i ∧ ∀ x y : Int, (valV kvs [Sum.inl x, Sum.inl y]).isSome = decide (Tied (ts.take i) x y))
      ⟨_, _, [], rfl, (Kp.refl _ _).put hd, upd_same, Nat.le_refl _, fun x y => by simp [valV, Tied]⟩ (fun i σ' H' _ h => ?_) ?_ ?_
    · obtain ⟨_, _, _, _, hK, _⟩ := h
      exact SqL.of (hK.lst nin0 hp)
    · rintro i x σ' H' hi ⟨x2, x3, kvs, rfl, hK, hkd, hlen, hkv⟩
      obtain ⟨dd, hdd, hx⟩ := hA.getV hi
      rw [List.getElem?_map] at hdd
      obtain ⟨t, ht, rfl⟩ := Option.map_eq_some_iff.mp hdd
      obtain ⟨q1, rfl, -, hq⟩ := Da.ints_inv (ns := [t.1, t.2]) (hx.keep hK (fun _ _ => nin0) fun _ h => h)
      have hq : H' q1 = some (.lst [.int t.1, .int t.2]) := hq
      have il := (List.getElem?_eq_some_iff.mp hi).1
      walk_at "go"
      rename_i T1 hT1
      have dT1 : d ≠ T1 := ne_of_none hkd hT1
      refine g_putT (k := [.inl t.1, .inl t.2]) (kvs := kvs) (by walk_at "look") upd_same (triv_szl (by omega)) ?_
      walk_at "go"
      rename_i T2 hT2
      have dT2 : d ≠ T2 := ne_of_none (o := .dT (putK kvs [.inl t.1, .inl t.2] (.bl true))) upd_same hT2
      have l1 := length_putK kvs [.inl t.1, .inl t.2] (V.bl true)
      have l2 := length_putK (putK kvs [.inl t.1, .inl t.2] (V.bl true)) [.inl t.2, .inl t.1] (V.bl true)
      refine g_putT (k := [.inl t.2, .inl t.1]) (kvs := putK kvs [.inl t.1, .inl t.2] (V.bl true)) (by walk_at "look") upd_same (triv_szl (by omega)) ?_
      walk_at "go"
      refine ⟨_, _, _, rfl, ?_, upd_same, by omega, fun x y => ?_⟩
      · have k1 := (hK.put (o := .tup [.int t.1, .int t.2]) (hK.free hT1)).put (o := .dT (putK kvs [.inl t.1, .inl t.2] (V.bl true))) hd
        exact (k1.put (k1.free hT2)).put hd
      · rw [valV_put, valV_put, List.take_add_one, ht, Bool.eq_iff_iff, decide_eq_true_eq]
        have m : Tied (ts.take i ++ [t]) x y ↔ Tied (ts.take i) x y ∨ (t.1 = x ∧ t.2 = y) ∨ (t.1 = y ∧ t.2 = x) := by
          unfold Tied
          simp only [List.mem_append, List.mem_singleton]
          constructor
          · rintro ((h | h) | (h | h))
            · exact .inl (.inl h)
            · subst h; exact .inr (.inl ⟨rfl, rfl⟩)
            · exact .inl (.inr h)
            · subst h; exact .inr (.inr ⟨rfl, rfl⟩)
          · rintro ((h | h) | ⟨h1, h2⟩ | ⟨h1, h2⟩)
            · exact .inl (.inl h)
            · exact .inr (.inl h)
            · exact .inl (.inr (by rw [← h1, ← h2]))
            · exact .inr (.inr (by rw [← h1, ← h2]))
        show _ ↔ Tied (ts.take i ++ [t]) x y
        rw [m]
        have e1 : ([Sum.inl x, Sum.inl y] : List Key) = [Sum.inl t.2, Sum.inl t.1] ↔ t.1 = y ∧ t.2 = x := by
          simp only [List.cons.injEq, Sum.inl.injEq, and_true]
          exact ⟨fun h => ⟨h.2.symm, h.1.symm⟩, fun h => ⟨h.2.symm, h.1.symm⟩⟩
        have e2 : ([Sum.inl x, Sum.inl y] : List Key) = [Sum.inl t.1, Sum.inl t.2] ↔ t.1 = x ∧ t.2 = y := by
          simp only [List.cons.injEq, Sum.inl.injEq, and_true]
          exact ⟨fun h => ⟨h.1.symm, h.2.symm⟩, fun h => ⟨h.1.symm, h.2.symm⟩⟩
        by_cases c1 : t.1 = y ∧ t.2 = x
        · rw [if_pos (e1.mpr c1)]
          exact ⟨fun _ => .inr (.inr c1), fun _ => rfl⟩
        · rw [if_neg fun z => c1 (e1.mp z)]
          by_cases c2 : t.1 = x ∧ t.2 = y
          · rw [if_pos (e2.mpr c2)]
            exact ⟨fun _ => .inr (.inl c2), fun _ => rfl⟩
          · rw [if_neg fun z => c2 (e2.mp z), hkv, decide_eq_true_eq]
            exact ⟨.inl, fun h => h.elim id fun h => h.elim (fun z => absurd z c2) fun z => absurd z c1⟩
    · rintro σ' H' ⟨x2, x3, kvs, rfl, hK, hkd, hlen, hkv⟩
      rw [lx, List.take_of_length_le (Nat.le_refl _)] at hkv
      walk_at "go"
      exact q d H' hK hd ⟨kvs, hkd, hkv⟩

end
end Ap


namespace Ap
open PySem L2 PySem.Spec PyProof.Rows
theorem whr_put {n : Nat} {f g : Int → Int} {p : Int} (hp : p ∈ up n) (h : ∀ q ∈ up n, q ≠ p → g q = f q) : ((0 : Int) :: (up n).map f).set p.toNat (g p) = 0 :: (up n).map g := by
  have b := up_mem.mp hp
  obtain ⟨k, rfl⟩ : ∃ k : Nat, p = (k : Int) + 1 := ⟨(p - 1).toNat, by omega⟩
  rw [show ((k : Int) + 1).toNat = k + 1 by omega, List.set_cons_succ, map_put (up_nodup n) (up_get (by omega)) h]
theorem whr_swap {n : Nat} {row : List Int} {c d : Int} (hc : c ∈ up n) (hd : d ∈ up n) (cd : c ≠ d) : ((whr n row).set c.toNat (seat row d)).set d.toNat (seat row c) = whr n (row.map (sw c d)) := by
  have h1 := whr_put (f := seat row) (g := fun q => if q = c then seat row d else seat row q) hc fun q _ hq => if_neg hq
  have h2 := whr_put (f := fun q => if q = c then seat row d else seat row q) (g := seat (row.map (sw c d))) hd fun q _ hq => by
    rw [seat_map]
    by_cases e : q = c
    · rw [if_pos e, e, sw_l]
    · rw [if_neg e, sw_o e hq]
  rw [if_pos rfl] at h1
  rw [seat_map, sw_r] at h2
  unfold whr
  rw [h1, h2]
theorem whr_inj {n : Nat} {r r' : List Int} (h : whr n r = whr n r') {p : Int} (hp : p ∈ up n) : seat r p = seat r' p := by
  have a := whr_at (row := r) hp
  have b := whr_at (row := r') hp
  rw [h, b] at a
  exact (Option.some.inj a).symm
/-- a call changes who sits where just if the two are not tied -/
theorem whr_step {ts : List Tie} {n : Nat} {row : List Int} {c : Int} (h : Stand n row) (hc : c ∈ up n) (h2 : 2 ≤ n) : decide (whr n (step ts n row c) = whr n row) = decide (Tied ts (seat row c) (seat row (nx n c))) := by
  have cd := nx_ne hc h2
  have hd := nx_mem (n := n) (c := c) (by omega)
  refine decide_eq_decide.mpr ⟨fun e => ?_, fun e => by unfold step; rw [if_pos e]⟩
  by_cases t : Tied ts (seat row c) (seat row (nx n c))
  · exact t
  · have := whr_inj e hc
    unfold step at this
    rw [if_neg t, seat_map, sw_l] at this
    unfold seat at this
    have i1 := at_idxOf (h.mem.mpr hc)
    have i2 := at_idxOf (h.mem.mpr hd)
    rw [show row.idxOf (nx n c) = row.idxOf c by omega, i1] at i2
    exact absurd (Option.some.inj i2).symm cd
def spLCalled : Sp := fun vs H Q _ => ∃ (d wp cp : Addr) (n : Nat) (ts : List Tie) (row cs : List Int), vs = [.ref d, .ref wp, .ref cp] ∧ TNear d ts H ∧ H wp = some (.lst ((whr n row).map V.int)) ∧ H cp = some (.lst (cs.map V.int)) ∧ 2 ≤ n ∧ n ≤ 40 ∧ Stand n row ∧ (∀ c ∈ cs, c ∈ up n) ∧
  ∀ q H', H q = none → Kp [] H H' → H' q = some (.lst ((whr n (moved ts n row cs)).map V.int)) → Q (.ref q) H'
def spLCounted : Sp := fun vs H Q _ => ∃ (d wp cp : Addr) (n : Nat) (ts : List Tie) (row cs : List Int), vs = [.ref d, .ref wp, .ref cp] ∧ TNear d ts H ∧ H wp = some (.lst ((whr n row).map V.int)) ∧ H cp = some (.lst (cs.map V.int)) ∧ 2 ≤ n ∧ n ≤ 40 ∧ Stand n row ∧ (∀ c ∈ cs, c ∈ up n) ∧
  ∀ p q H', H p = none → (H q = none ∨ q = wp) → Kp [] H H' → H' p = some (.tup [.ref q, .int (chg ts n row cs)]) → H' q = some (.lst ((whr n (moved ts n row cs)).map V.int)) → Q (.ref p) H'
/-- a state as the law keeps it -/
def wsD (n : Nat) (s : List Int × Nat) : PyData := .tuple [intsD (whr n s.1), .int s.2]
theorem ws_inv {P : Addr → Prop} {H : Hp} {n : Nat} {v : V} {s : List Int × Nat} (h : Da P H v (wsD n s)) : ∃ t r, v = .ref t ∧ P t ∧ H t = some (.tup [.ref r, .int s.2]) ∧ P r ∧ H r = some (.lst ((whr n s.1).map V.int)) := by
  cases h with
  | tup a b c =>
    cases c with
    | cons c1 c2 =>
      cases c2 with
      | cons c3 c4 =>
        cases c4
        cases c3
        obtain ⟨r, rfl, r1, r2⟩ := c1.ints_inv
        exact ⟨_, r, rfl, a, b, r1, r2⟩
theorem atI_last {xs : List V} {v : V} : atI (xs ++ [v]) (-1) = some v := by
  have : ixN (xs ++ [v]).length (-1) = some xs.length := by
    unfold ixN
    rw [if_neg (by decide), if_pos (by rw [List.length_append]; simp; omega)]
    congr 1
    rw [List.length_append]
    simp
    omega
  unfold atI
  rw [this]
  simp
def spLed : Sp := fun vs H Q _ => ∃ (d sp cp : Addr) (G : Addr → Prop) (n : Nat) (ts : List Tie) (hs : List (List Int × Nat)) (cur : List Int × Nat) (us : List V) (cs : List Int), vs = [.ref d, .ref sp, .ref cp] ∧ TNear d ts H ∧ H sp = some (.lst us) ∧ DaAll (fun b => b ≠ sp ∧ G b) H us ((hs ++ [cur]).map (wsD n)) ∧
  H cp = some (.lst (cs.map V.int)) ∧ 2 ≤ n ∧ n ≤ 40 ∧ Stand n cur.1 ∧ (∀ c ∈ cs, c ∈ up n) ∧ hs.length ≤ 2000 ∧ (∀ b, H b = none → G b) ∧
  ∀ H' us', Kp [sp] H H' → H' sp = some (.lst us') → DaAll (fun b => b ≠ sp ∧ G b) H' us' ((hs ++ [cur] ++ [(moved ts n cur.1 cs, cur.2 + chg ts n cur.1 cs)]).map (wsD n)) → Q (.int (chg ts n cur.1 cs)) H'
section
variable {P : Program} {w : World} {K : PySem.W.Frag} {mg : Str → Option Value} {base : Heap}
theorem ok_Lcalled (T : Txt K mg base) : FnG P w K mg base CX0 1 T.a_Lcalled T.fd_Lcalled ["_law_near_here", "_law_where_here", "_law_calls"] spLCalled := by
  refine fnG_of0 T.F_Lcalled sc_Lcalled (fun vs H Q E h => ?_) (fun cdv A outer s H vs Q E hcd hr gd h => ?_)
  · obtain ⟨d, wp, cp, n, ts, row, cs, rfl, _⟩ := h
    rfl
  · obtain ⟨d, wp, cp, n, ts, row, cs, rfl, hN, hp, hc, n1, n2, hrow, hcs, q⟩ := h
    refine ⟨_, (pss_cons (ps_set (i := 3) sc_Lcalled.nd rfl (Or.inl rfl) (pe_callTy cr_list (by rfl) T.n_list (by decide +kernel) (pa_cons (pv 1) pa_nil)))
    (pss_cons (ps_for PassesOwn.never rfl (pi_list (pv 2)) (pg_name (i := 4) sc_Lcalled.nd rfl (Or.inl rfl))
      (pss_cons (ps_set (i := 5) sc_Lcalled.nd rfl (Or.inl rfl) (pe_op op_add (pe_op op_mod (pv 4) (pe_op op_sub (pe_callB cr_len (by rfl) T.n_len (by decide +kernel) (pa_cons (pv 1) pa_nil)) pe_int)) pe_int))
      (pss_cons (ps_par (i := 6) (j := 7) (by rfl) sc_Lcalled.nd rfl rfl (by decide) rfl rfl (pa_cons (pe_ix ix_list (pv 3) (pv 4) (fun _ _ => rfl)) (pa_cons (pe_ix ix_list (pv 3) (pv 5) (fun _ _ => rfl)) pa_nil)) (by rfl))
      (pss_one (ps_if (pt_cmp (pc_dnotin hr.u1 (pe_tup (pa_cons (pv 6) (pa_cons (pv 7) pa_nil))) (pv 0)) (by rfl))
        (pss_one (ps_asg (pe_tup (pa_cons (pv 7) (pa_cons (pv 6) pa_nil))) (pg_tup rfl (pgs_cons (pg_sub (pv 3) (pv 4) set_list) (pgs_cons (pg_sub (pv 3) (pv 5) set_list) pgs_nil)))))
        pss_nil)))))
    (pss_one (ps_ret (pv 3))))), ?_⟩
    rw [show start ["_law_near_here", "_law_where_here", "_law_calls", "_law_now", "_law_call", "_law_other", "_law_one", "_law_two"] [.ref d, .ref wp, .ref cp] = [some (.ref d), some (.ref wp), some (.ref cp), none, none, none, none, none] from rfl]
    walk_at "go"
    rename_i lp hl
    refine g_forL (xs := cs.map V.int) (fun i σ' H' => ∃ x4 x5 x6 x7, σ' = [some (.ref d), some (.ref wp), some (.ref cp), some (.ref lp), x4, x5, x6, x7] ∧ Kp [] H H' ∧ H' lp = some (.lst ((whr n (moved ts n row (cs.take i))).map V.int)))
      ⟨_, _, _, _, rfl, (Kp.refl _ _).put hl, upd_same⟩ (fun i σ' H' _ h => ?_) ?_ ?_
    · obtain ⟨_, _, _, _, _, h, _⟩ := h
      exact SqL.of (h.lst nin0 hc)
    · rintro i x σ' H' hx ⟨x4, x5, x6, x7, rfl, hK, hlp⟩
      rw [List.getElem?_map] at hx
      obtain ⟨c, hcx, rfl⟩ := Option.map_eq_some_iff.mp hx
      have cin := hcs c (List.mem_of_getElem? hcx)
      rw [take_succ' hcx, moved_snoc]
      have hR : Stand n (moved ts n row (cs.take i)) := moved_stand hrow fun d hd => hcs d (List.mem_of_mem_take hd)
      generalize moved ts n row (cs.take i) = R at *
      have din := nx_mem (n := n) (c := c) (by omega)
      have cd := nx_ne cin n1
      have cb := up_mem.mp cin
      have db := up_mem.mp din
      have hw := hK.lst nin0 hp
      obtain ⟨kvs, hd1, hd2⟩ := hN.kp hK
      have a1 : atI ((whr n R).map V.int) c = some (.int (seat R c)) := atI_of (n := c.toNat) (by omega) (by rw [List.getElem?_map, whr_at cin]; rfl)
      have a2 : atI ((whr n R).map V.int) (nx n c) = some (.int (seat R (nx n c))) := atI_of (n := (nx n c).toNat) (by omega) (by rw [List.getElem?_map, whr_at din]; rfl)
      walk_at "go"
      rw [List.length_map, whr_len, show ((n + 1 : Nat) : Int) - 1 = n by omega]
      walk_at "go"
      rw [show c % (n : Int) + 1 = nx n c from rfl]
      walk_at "go"
      rename_i Tk hTk
      have dT : d ≠ Tk := ne_of_none hd1 hTk
      have lT : lp ≠ Tk := ne_of_none hlp hTk
      refine g_dinT (k := [.inl (seat R c), .inl (seat R (nx n c))]) (kvs := kvs) (by walk_at "look") upd_same ?_
      have ein : (if false = true then (valV kvs [Sum.inl (seat R c), Sum.inl (seat R (nx n c))]).isSome else !(valV kvs [Sum.inl (seat R c), Sum.inl (seat R (nx n c))]).isSome) = !decide (Tied ts (seat R c) (seat R (nx n c))) := by
        rw [if_neg (by decide), hd2]
      rw [ein]
      have k1 := hK.put (o := .tup [.int (seat R c), .int (seat R (nx n c))]) (hK.free hTk)
      have hlp1 : upd H' Tk (HO.tup [.int (seat R c), .int (seat R (nx n c))]) lp = _ := (upd_ne lT).trans hlp
      walk_at "go"
      refine g_kN (fun e => ?_) (fun e => ?_)
      · have e1 : step ts n R c = R.map (sw c (nx n c)) := by unfold step; rw [if_neg e]
        rw [e1, ← whr_swap cin din cd.symm]
        walk_at "go"
        rename_i T2 hT2
        have lT2 : lp ≠ T2 := ne_of_none hlp1 hT2
        have l0 : H lp = none := hl
        refine g_setL (xs := (whr n R).map V.int) (n := c.toNat) ((upd_ne lT2).trans hlp1) (ixN_of (by omega) (by rw [List.length_map, whr_len]; omega)) ?_
        walk_at "go"
        refine g_setL (xs := ((whr n R).map V.int).set c.toNat (.int (seat R (nx n c)))) (n := (nx n c).toNat) upd_same (ixN_of (by omega) (by rw [List.length_set, List.length_map, whr_len]; omega)) ?_
        walk_at "go"
        refine ⟨_, _, _, _, rfl, ((k1.put (k1.free hT2)).put l0).put l0, ?_⟩
        rw [upd_same, List.map_set, List.map_set]
      · have e1 : step ts n R c = R := by unfold step; rw [if_pos e]
        rw [e1]
        walk_at "go"
        exact ⟨_, _, _, _, rfl, k1, hlp1⟩
    · rintro σ' H' ⟨x4, x5, x6, x7, rfl, hK, hlp⟩
      rw [List.length_map, List.take_of_length_le (Nat.le_refl _)] at hlp
      walk_at "go"
      exact q lp H' hl hK hlp

end
end Ap


/-! _law_leads_right of k30. -/
namespace Ap
open PySem L2 PySem.Spec PyProof.Rows
theorem ntKp30 {H H' : Hp} {v : V} {ts : List Tie} (h : Nt H v ts) (k : Kp [] H H') : Nt H' v ts := h.keep k (fun _ _ => nin0) fun _ h => h
def spLeads (tb : List Addr) : Sp := fun vs H Q _ => ∃ (n : Nat) (ts : List Tie) (tv : V) (rp p p' : Addr) (row o o' : List Int), vs = [.int n, tv, .ref rp, .ref p, .ref p'] ∧ Nt H tv ts ∧ H rp = some (.lst (row.map V.int)) ∧ H p = some (.lst (o.map V.int)) ∧ H p' = some (.lst (o'.map V.int)) ∧
  3 ≤ n ∧ n ≤ 40 ∧ NetS (up n) ts ∧ Stand n row ∧ Stand n o ∧ Stand n o' ∧ Tabs tb H ∧ ∀ H', Kp [] H H' → Q (.bl true) H'
section
variable {P : Program} {w : World} {K : PySem.W.Frag} {mg : Str → Option Value} {base : Heap}
theorem ok_Lleads_right (T : Txt K mg base) : FnG P w K mg base CX0 8 T.a_Lleads_right T.fd_Lleads_right ["_law_seats", "_law_ties", "_law_standing", "_law_order", "_law_other"] (spLeads T.tbs) := by
  refine fnG_of0 T.F_Lleads_right sc_Lleads_right (fun vs H Q E h => ?_) (fun cdv A outer s H vs Q E hcd hr gd h => ?_)
  · obtain ⟨n, ts, tv, rp, p, p', row, o, o', rfl, _⟩ := h
    rfl
  · obtain ⟨n, ts, tv, rp, p, p', row, o, o', rfl, hN, hrp, hp, hp', n3, n40, hS, hR, hO, hO', hT, q⟩ := h
    have few := hS.few n40
    have ln := hO'.length
    refine ⟨_, (pss_cons (ps_set (i := 5) sc_Lleads_right.nd rfl (Or.inl rfl) (pe_call (ok_turns T) (hr.mono (by decide)) rfl T.m_turns T.F_turns.kp T.b_turns .nil pass0 (pa_cons (pv 3) (pa_cons (pv 4) pa_nil))))
    (pss_cons (ps_if (pt_cmpR op_isN (pv 5) pe_non (nomark _))
      (pss_one (ps_ret pe_bl))
      pss_nil)
    (pss_cons (ps_par (i := 6) (j := 7) (by rfl) sc_Lleads_right.nd rfl rfl (by decide) rfl rfl (pa_cons (pe_callG (ok_Lnear T) (hr.mono (by decide)) gd rfl T.m_Lnear T.F_Lnear.kp T.b_Lnear .nil pass0 (pa_cons (pv 1) pa_nil)) (pa_cons (pe_callG (ok_Lwhere T) (hr.mono (by decide)) gd rfl T.m_Lwhere T.F_Lwhere.kp T.b_Lwhere .nil pass0 (pa_cons (pv 2) pa_nil)) pa_nil)) (by rfl))
    (pss_cons (ps_set (i := 8) sc_Lleads_right.nd rfl (Or.inl rfl) (pe_callG (ok_Lsitting T) (hr.mono (by decide)) gd rfl T.m_Lsitting T.F_Lsitting.kp T.b_Lsitting .nil pass0 (pa_cons (pe_callG (ok_Lcalled T) (hr.mono (by decide)) gd rfl T.m_Lcalled T.F_Lcalled.kp T.b_Lcalled .nil pass0 (pa_cons (pv 6) (pa_cons (pv 7) (pa_cons (pv 3) pa_nil)))) pa_nil)))
    (pss_cons (ps_if (pt_cmpR (op_neD hr.units) (pe_callG (ok_Lsitting T) (hr.mono (by decide)) gd rfl T.m_Lsitting T.F_Lsitting.kp T.b_Lsitting .nil pass0 (pa_cons (pe_callG (ok_Lcalled T) (hr.mono (by decide)) gd rfl T.m_Lcalled T.F_Lcalled.kp T.b_Lcalled .nil pass0 (pa_cons (pv 6) (pa_cons (pv 7) (pa_cons (pe_op op_cat (pe_op op_cat (pv 5) (pv 4)) (pe_revL (pv 5))) pa_nil)))) pa_nil)) (pv 8) (nomark _))
      (pss_one (ps_ret pe_bl))
      pss_nil)
    (pss_cons (ps_set (i := 9) sc_Lleads_right.nd rfl (Or.inl rfl) (pe_call (ok_after_rounds T) (hr.mono (by decide)) rfl T.m_after_rounds T.F_after_rounds.kp T.bd_after_rounds T.r_after_rounds pass0 (pa_cons (pv 0) (pa_cons (pv 1) (pa_cons (pe_call (ok_called T) (hr.mono (by decide)) rfl T.m_called T.F_called.kp T.b_called .nil pass0 (pa_cons (pv 0) (pa_cons (pv 1) (pa_cons (pv 2) (pa_cons (pv 5) pa_nil))))) (pa_cons (pv 4) pa_nil))))))
    (pss_one (ps_ret (pe_and (pe_cmpR (op_eqD hr.units) (pe_call (ok_called T) (hr.mono (by decide)) rfl T.m_called T.F_called.kp T.b_called .nil pass0 (pa_cons (pv 0) (pa_cons (pv 1) (pa_cons (pv 9) (pa_cons (pe_revL (pv 5)) pa_nil))))) (pv 8) (nomark _)) (pe_one (pe_cmpR (op_eqD hr.units) (pe_call (ok_after_rounds T) (hr.mono (by decide)) rfl T.m_after_rounds T.F_after_rounds.kp T.bd_after_rounds T.r_after_rounds pass0 (pa_cons (pv 0) (pa_cons (pv 1) (pa_cons (pv 2) (pa_cons (pv 3) pa_nil))))) (pv 8) (nomark _)))))))))))), ?_⟩
    rw [show start ["_law_seats", "_law_ties", "_law_standing", "_law_order", "_law_other", "_law_path", "_law_near_here", "_law_where_here", "_law_goal", "_law_now"] [.int n, tv, .ref rp, .ref p, .ref p'] = [some (.int n), some (tv), some (.ref rp), some (.ref p), some (.ref p'), none, none, none, none, none] from rfl]
    walk_at "go"
    refine ⟨p, p', o, o', n, rfl, hp, hp', n3, n40, hO, hO', hT, fun _ H1 k1 => ?_, fun hb m k cs r H1 eb hTT r0 k1 er => ?_⟩
    · walk_at "go"
      refine ⟨rfl, ?_⟩
      walk_at "go"
      refine g_kDY rfl ?_
      walk_at "go"
      exact q H1 k1
    · obtain ⟨htr, hcl, hcu⟩ := hTT.right (brk_bks (by omega) hO) (brk_bks (by omega) hO') hb
      have hm : cs.length ≤ 1600 := by
        obtain ⟨hL, hfar⟩ := bst_leas (brk_bks (by omega) hO) (brk_bks (by omega) hO') hb eb
        have a := hL.2 0
        rw [glv_zero] at a
        have hBA := brk_bks (n := n) (by omega) hO
        have hBB := brk_bks (n := n) (by omega) hO'
        have := farL_bound hBA.mem hBB.mem
        have h40 : (brk n o).length * n ≤ 40 * 40 := Nat.mul_le_mul (by have := hBA.lt; omega) n40
        omega
      have rnd := trn_round (by omega) hO' hO hcu htr ts
      have hcu' : ∀ c ∈ cs.reverse, c ∈ up n := fun c hc => hcu c (List.mem_reverse.mp hc)
      have hOc : ∀ c ∈ o, c ∈ up n := fun c hc => hO.mem.mp hc
      have hOc' : ∀ c ∈ o', c ∈ up n := fun c hc => hO'.mem.mp hc
      walk_at "go"
      refine ⟨rfl, ?_⟩
      walk_at "go"
      refine g_kDX (fun z => nomatch z) ?_
      walk_at "go"
      refine ⟨tv, ts, rfl, ntKp30 hN k1, by omega, fun d H2 k2 d0 hd => ?_⟩
      have er := k2.lst nin0 er
      have k2 := k1.trans k2
      walk_at "go"
      refine ⟨rp, n, row, rfl, k2.lst nin0 hrp, n40, hR, fun wp H3 wp0 k3 ew => ?_⟩
      have hd := hd.kp k3
      have er := k3.lst nin0 er
      have k3 := k2.trans k3
      clear k2
      walk_at "go"
      refine ⟨d, wp, p, n, ts, row, o, rfl, hd, ew, k3.lst nin0 hp, by omega, n40, hR, hOc, fun w2 H4 w20 k4 ew2 => ?_⟩
      walk_at "go"
      have hRo := moved_stand (ts := ts) hR hOc
      refine ⟨w2, n, moved ts n row o, rfl, ew2, n40, hRo, fun gp H5 gp0 k5 eg => ?_⟩
      have k45 := k4.trans k5
      have hd := hd.kp k45
      have ew := k45.lst nin0 ew
      have er := k45.lst nin0 er
      have k5 := k3.trans k45
      clear k3 k4 k45 ew2
      walk_at "go"
      refine g_catJ er (k5.lst nin0 hp') (by omega) fun c1 G1 c10 k6 ec1 => ?_
      walk_at "go"
      rename_i rv hrv
      have k7 : Kp [] G1 (upd G1 rv (.lst (cs.map V.int).reverse)) := Kp.new hrv
      have erv : upd G1 rv (.lst (cs.map V.int).reverse) rv = some (.lst (cs.reverse.map V.int)) := by rw [List.map_reverse]; exact upd_same
      have ec1 := k7.lst nin0 ec1
      have k57 := k6.trans k7
      generalize upd G1 rv (.lst (cs.map V.int).reverse) = G2 at *
      refine g_catJ ec1 erv (by rw [List.length_append, List.length_reverse]; omega) fun c2 G3 c20 k8 ec2 => ?_
      have k58 := k57.trans k8
      have hd := hd.kp k58
      have ew := k58.lst nin0 ew
      have eg := k58.lst nin0 eg
      have er := k58.lst nin0 er
      have k8 := k5.trans k58
      clear k6 k7 k57 k58 k5 ec1 erv
      have hall : ∀ c ∈ cs ++ o' ++ cs.reverse, c ∈ up n := fun c hc => by
        rcases List.mem_append.mp hc with h | h
        · rcases List.mem_append.mp h with h | h
          · exact hcu c h
          · exact hOc' c h
        · exact hcu' c h
      walk_at "go"
      refine ⟨d, wp, c2, n, ts, row, cs ++ o' ++ cs.reverse, rfl, hd, ew, ec2, by omega, n40, hR, hall, fun w2 G4 w20 k9 ew2 => ?_⟩
      walk_at "go"
      refine ⟨w2, n, _, rfl, ew2, n40, moved_stand hR hall, fun g2 G5 g20 k10 eg2 => ?_⟩
      rw [rnd row] at eg2
      have k910 := k9.trans k10
      have eg := k910.lst nin0 eg
      have er := k910.lst nin0 er
      have k8 := k8.trans k910
      clear k9 k10 k910 hd ew ew2
      walk_at "go"
      refine g_neI2 eg2 eg ?_
      walk_at "go"
      refine g_kNX rfl ?_
      walk_at "go"
      have nso : NSO n ts row cs := ⟨n3, n40, hS, hR, hcu⟩
      refine ⟨n, ts, tv, rp, r, row, cs, rfl, ntKp30 hN k8, k8.lst nin0 hrp, er, nso, k8.tabs hT, fun s1 G6 s10 k11 es1 => ?_⟩
      have hR1 := moved_stand (ts := ts) hR hcu
      have eg := k11.lst nin0 eg
      have er := k11.lst nin0 er
      have k8 := k8.trans k11
      clear k11
      walk_at "go"
      refine ⟨n, ts, tv, s1, p', _, o', 1, rfl, ntKp30 hN k8, es1, k8.lst nin0 hp', ⟨n3, n40, hS, hR1, hOc'⟩, hO', k8.tabs hT, fun h => by omega, fun s2 G7 s20 k12 es2 => ?_⟩
      rw [after_one] at es2
      have hR2 := moved_stand (ts := ts) hR1 hOc'
      have eg := k12.lst nin0 eg
      have er := k12.lst nin0 er
      have k8 := k8.trans k12
      clear k12
      walk_at "go"
      rename_i rv2 hrv2
      have k13 : Kp [] G7 (upd G7 rv2 (.lst (cs.map V.int).reverse)) := Kp.new hrv2
      have erv2 : upd G7 rv2 (.lst (cs.map V.int).reverse) rv2 = some (.lst (cs.reverse.map V.int)) := by rw [List.map_reverse]; exact upd_same
      have eg := k13.lst nin0 eg
      have es2 := k13.lst nin0 es2
      have k8 := k8.trans k13
      generalize upd G7 rv2 (.lst (cs.map V.int).reverse) = G8 at *
      clear k13
      refine ⟨n, ts, tv, s2, rv2, _, cs.reverse, rfl, ntKp30 hN k8, es2, erv2, ⟨n3, n40, hS, hR2, hcu'⟩, k8.tabs hT, fun s3 G9 s30 k14 es3 => ?_⟩
      rw [← moved_app, ← moved_app, ← List.append_assoc, rnd row] at es3
      have eg := k14.lst nin0 eg
      have k8 := k8.trans k14
      clear k14
      walk_at "go"
      refine g_eqI2 es3 eg ?_
      rw [decide_eq_true rfl]
      walk_at "go"
      refine ⟨n, ts, tv, rp, p, row, o, 1, rfl, ntKp30 hN k8, k8.lst nin0 hrp, k8.lst nin0 hp, ⟨n3, n40, hS, hR, hOc⟩, hO, k8.tabs hT, fun h => by omega, fun s4 G10 s40 k15 es4 => ?_⟩
      rw [after_one] at es4
      walk_at "go"
      refine g_eqI2 es4 (k15.lst nin0 eg) ?_
      rw [decide_eq_true rfl]
      exact q _ (k8.trans k15)
end
end Ap


/-! law of k30. -/
namespace Ap
open PySem L2 PySem.Spec PyProof.Rows
theorem s1234 : Stand 4 [1, 2, 3, 4] := by unfold Stand; decide +kernel
theorem s3412 : Stand 4 [3, 4, 1, 2] := by unfold Stand; decide +kernel
theorem s1324 : Stand 4 [1, 3, 2, 4] := by unfold Stand; decide +kernel
theorem s3142 : Stand 4 [3, 1, 4, 2] := by unfold Stand; decide +kernel
theorem s2413 : Stand 4 [2, 4, 1, 3] := by unfold Stand; decide +kernel
theorem s12345 : Stand 5 [1, 2, 3, 4, 5] := by unfold Stand; decide +kernel
theorem s23451 : Stand 5 [2, 3, 4, 5, 1] := by unfold Stand; decide +kernel
theorem s123 : Stand 3 [1, 2, 3] := by unfold Stand; decide +kernel
theorem b1234_3412 : nB [1, 2, 3, 4] 4 = nB [3, 4, 1, 2] 4 := by decide +kernel
theorem b1324_1234 : nB [1, 3, 2, 4] 4 ≠ nB [1, 2, 3, 4] 4 := by decide +kernel
theorem b12345 : nB [1, 2, 3, 4, 5] 5 = nB [2, 3, 4, 5, 1] 5 := by decide +kernel
theorem b1324_3142 : nB [1, 3, 2, 4] 4 = nB [3, 1, 4, 2] 4 := by decide +kernel
theorem best1234 : bst 4 (brk 4 [1, 2, 3, 4]) (brk 4 [3, 4, 1, 2]) (2 * (brk 4 [1, 2, 3, 4]).length + 1) = some (2, -1) ∨ bst 4 (brk 4 [1, 2, 3, 4]) (brk 4 [3, 4, 1, 2]) (2 * (brk 4 [1, 2, 3, 4]).length + 1) = some (2, 0) ∨ bst 4 (brk 4 [1, 2, 3, 4]) (brk 4 [3, 4, 1, 2]) (2 * (brk 4 [1, 2, 3, 4]).length + 1) = some (2, 1) := by decide +kernel
theorem l1234 : Leas 4 (brk 4 [1, 2, 3, 4]) (brk 4 [3, 4, 1, 2]) 2 := by
  have h := brk_bks (by decide) s1234
  have h' := brk_bks (by decide) s3412
  rcases best1234 with e | e | e <;> exact (bst_leas h h' b1234_3412 e).1
theorem best12345 : bst 5 (brk 5 [1, 2, 3, 4, 5]) (brk 5 [2, 3, 4, 5, 1]) (2 * nB [1, 2, 3, 4, 5] 5 + 1) = some (1, 1) := by decide +kernel
theorem best1324 : bst 4 (brk 4 [1, 3, 2, 4]) (brk 4 [3, 1, 4, 2]) (2 * nB [1, 3, 2, 4] 4 + 1) = some (0, 0) := by decide +kernel
theorem tt12345 : TurnsTo 5 (brk 5 [1, 2, 3, 4, 5]) (glv 5 (brk 5 [2, 3, 4, 5, 1]) 1) [1] := ⟨1, by decide +kernel, fun j hj => by
  obtain rfl : j = 0 := by omega
  decide +kernel, by decide +kernel⟩
theorem tt1324 : TurnsTo 4 (brk 4 [1, 3, 2, 4]) (glv 4 (brk 4 [3, 1, 4, 2]) 0) [] := ⟨0, by decide +kernel, fun j hj => absurd hj (by omega), rfl⟩
section
variable {P : Program} {w : World} {K : PySem.W.Frag} {mg : Str → Option Value} {base : Heap}
theorem ok_law (T : Txt K mg base) : FnG P w K mg base CX0 9 T.a_law T.fd_law ["_law_script"] (spLaw K T.tbs) := by
  refine fnG_of0 T.F_law sc_law (fun vs H Q E h => ?_) (fun cdv A outer s H vs Q E hcd hr gd h => ?_)
  · obtain ⟨a, ns, rfl, _⟩ := h
    rfl
  · obtain ⟨a, ns, rfl, ha, hn, hT, q⟩ := h
    refine ⟨_, (Evl.pss_cut (ps_for PassesOwn.never rfl (pi_list (pe_lc (own := [("_law_cell", 12)]) (g := gName 12) (tt := tYes) rfl sc_law.nd (pi_list (pe_op op_cat (pe_slice sl_list (pv 0) po_none (po_some pe_int)) (pe_lst (pa_cons pe_int pa_nil)))) (blkOk_by (N := ["_law_script", "_law_draws_here", "_law_most", "_law_order", "_law_other", "_law_first", "_law_last", "_law_seats", "_law_ties", "_law_standing", "_law_ordered", "_law_at", "_law_cell"]) (sc := defScope s_law) (by decide +kernel)) (fun _ _ _ _ _ => (pg_name (i := 12) sc_law.nd rfl (Or.inl rfl))) (fun _ _ _ _ _ => pts_nil) (fun _ _ _ _ _ => (pe_callG (ok_Ldraws T) (hr.mono (by decide)) gd rfl T.m_Ldraws T.F_Ldraws.kp T.b_Ldraws .nil pass0 (pa_cons (pv 12) pa_nil))))) (pg_name (i := 1) sc_law.nd rfl (Or.inl rfl))
      (Evl.pss_cut (ps_for PassesOwn.never rfl (pi_list (pe_lst (pa_cons pe_int (pa_cons pe_int (pa_cons pe_int pa_nil))))) (pg_name (i := 2) sc_law.nd rfl (Or.inl rfl))
        (pss_cons (ps_set (i := 3) sc_law.nd rfl (Or.inl rfl) (pe_callG (ok_Lmixed T) (hr.mono (by decide)) gd rfl T.m_Lmixed T.F_Lmixed.kp T.b_Lmixed .nil pass0 (pa_cons (pv 1) (pa_cons (pe_listRg rfl rfl T.n_list (prg_2 rfl T.n_range pe_int (pe_op op_add pe_int (pe_op op_mod (pe_callTy cr_int (by rfl) T.n_int (by decide +kernel) (pa_cons (pe_callG (ok_Lnext T) (hr.mono (by decide)) gd rfl T.m_Lnext T.F_Lnext.kp T.b_Lnext .nil pass0 (pa_cons (pv 1) pa_nil)) pa_nil)) (pe_op op_sub (pv 2) pe_int))))) pa_nil))))
        (pss_one (ps_for PassesOwn.never rfl (pi_list (pe_callG (ok_Lothers T) (hr.mono (by decide)) gd rfl T.m_Lothers T.F_Lothers.kp T.b_Lothers .nil pass0 (pa_cons (pv 1) (pa_cons (pv 3) pa_nil)))) (pg_name (i := 4) sc_law.nd rfl (Or.inl rfl))
          (pss_cons (ps_if (pt_not (pt_val (pe_callG (ok_Lright T) (hr.mono (by decide)) gd rfl T.m_Lright T.F_Lright.kp T.b_Lright .nil pass0 (pa_cons (pv 3) (pa_cons (pv 4) pa_nil)))))
            (pss_one (ps_ret pe_bl))
            pss_nil)
          (pss_cons (ps_par (i := 5) (j := 6) (by rfl) sc_law.nd rfl rfl (by decide) rfl rfl (pa_cons (pe_callG (ok_Lbreaks T) (hr.mono (by decide)) gd rfl T.m_Lbreaks T.F_Lbreaks.kp T.b_Lbreaks .nil pass0 (pa_cons (pv 3) pa_nil)) (pa_cons (pe_callG (ok_Lbreaks T) (hr.mono (by decide)) gd rfl T.m_Lbreaks T.F_Lbreaks.kp T.b_Lbreaks .nil pass0 (pa_cons (pv 4) pa_nil)) pa_nil)) (by rfl))
          (pss_one (ps_if (PW.pt (pw_and (pt_cmpR op_lt (pe_callB cr_len (by rfl) T.n_len (by decide +kernel) (pa_cons (pv 3) pa_nil)) pe_int (nomark _)) (pw_and1 (pt_cmpR op_eq (pe_callB cr_len (by rfl) T.n_len (by decide +kernel) (pa_cons (pv 5) pa_nil)) (pe_callB cr_len (by rfl) T.n_len (by decide +kernel) (pa_cons (pv 6) pa_nil)) (nomark _)))))
            (pss_one (ps_if (pt_cmpR op_ne (pe_callG (ok_Lsteps T) (hr.mono (by decide)) gd rfl T.m_Lsteps T.F_Lsteps.kp T.b_Lsteps .nil pass0 (pa_cons (pv 5) (pa_cons (pv 6) (pa_cons (pe_callB cr_len (by rfl) T.n_len (by decide +kernel) (pa_cons (pv 3) pa_nil)) pa_nil)))) (pe_callG (ok_Lleast T) (hr.mono (by decide)) gd rfl T.m_Lleast T.F_Lleast.kp T.b_Lleast .nil pass0 (pa_cons (pv 5) (pa_cons (pv 6) (pa_cons (pe_callB cr_len (by rfl) T.n_len (by decide +kernel) (pa_cons (pv 3) pa_nil)) pa_nil)))) (nomark _))
              (pss_one (ps_ret pe_bl))
              pss_nil))
            pss_nil))))))))
      (pss_cons (ps_asg (pe_callG (ok_Lnet T) (hr.mono (by decide)) gd rfl T.m_Lnet T.F_Lnet.kp T.b_Lnet .nil pass0 (pa_cons (pv 1) (pa_cons pe_int pa_nil))) (pg_tup rfl (pgs_cons (pg_name (i := 7) sc_law.nd rfl (Or.inl rfl)) (pgs_cons (pg_name (i := 8) sc_law.nd rfl (Or.inl rfl)) pgs_nil))))
      (pss_cons (ps_par (i := 9) (j := 3) (by rfl) sc_law.nd rfl rfl (by decide) rfl rfl (pa_cons (pe_callG (ok_Lmixed T) (hr.mono (by decide)) gd rfl T.m_Lmixed T.F_Lmixed.kp T.b_Lmixed .nil pass0 (pa_cons (pv 1) (pa_cons (pe_listRg rfl rfl T.n_list (prg_2 rfl T.n_range pe_int (pe_op op_add (pv 7) pe_int))) pa_nil))) (pa_cons (pe_callG (ok_Lmixed T) (hr.mono (by decide)) gd rfl T.m_Lmixed T.F_Lmixed.kp T.b_Lmixed .nil pass0 (pa_cons (pv 1) (pa_cons (pe_listRg rfl rfl T.n_list (prg_2 rfl T.n_range pe_int (pe_op op_add (pv 7) pe_int))) pa_nil))) pa_nil)) (by rfl))
      (pss_one (ps_for PassesOwn.never rfl (pi_list (pe_callG (ok_Lothers T) (hr.mono (by decide)) gd rfl T.m_Lothers T.F_Lothers.kp T.b_Lothers .nil pass0 (pa_cons (pv 1) (pa_cons (pv 3) pa_nil)))) (pg_name (i := 4) sc_law.nd rfl (Or.inl rfl))
        (pss_one (ps_if (pt_not (pt_val (pe_callG (ok_Lleads_right T) (hr.mono (by decide)) gd rfl T.m_Lleads_right T.F_Lleads_right.kp T.b_Lleads_right .nil pass0 (pa_cons (pv 7) (pa_cons (pv 8) (pa_cons (pv 9) (pa_cons (pv 3) (pa_cons (pv 4) pa_nil))))))))
          (pss_one (ps_ret pe_bl))
          pss_nil))))))))
    (pss_cons (ps_if (pt_cmpR (op_neD hr.units) (pe_lst (pa_cons (pe_call (ok_fewest_turns T) (hr.mono (by decide)) rfl T.m_fewest_turns T.F_fewest_turns.kp T.b_fewest_turns .nil pass0 (pa_cons (pe_lst (pa_cons pe_int (pa_cons pe_int (pa_cons pe_int (pa_cons pe_int pa_nil))))) (pa_cons (pe_lst (pa_cons pe_int (pa_cons pe_int (pa_cons pe_int (pa_cons pe_int pa_nil))))) pa_nil))) (pa_cons (pe_call (ok_fewest_turns T) (hr.mono (by decide)) rfl T.m_fewest_turns T.F_fewest_turns.kp T.b_fewest_turns .nil pass0 (pa_cons (pe_lst (pa_cons pe_int (pa_cons pe_int (pa_cons pe_int (pa_cons pe_int pa_nil))))) (pa_cons (pe_lst (pa_cons pe_int (pa_cons pe_int (pa_cons pe_int (pa_cons pe_int pa_nil))))) pa_nil))) pa_nil))) (pe_lst (pa_cons pe_int (pa_cons pe_non pa_nil))) (nomark _))
      (pss_one (ps_ret pe_bl))
      pss_nil)
    (pss_cons (ps_if (PW.pt (pw_or (pt_cmpR (op_neD hr.units) (pe_call (ok_turns T) (hr.mono (by decide)) rfl T.m_turns T.F_turns.kp T.b_turns .nil pass0 (pa_cons (pe_lst (pa_cons pe_int (pa_cons pe_int (pa_cons pe_int (pa_cons pe_int (pa_cons pe_int pa_nil)))))) (pa_cons (pe_lst (pa_cons pe_int (pa_cons pe_int (pa_cons pe_int (pa_cons pe_int (pa_cons pe_int pa_nil)))))) pa_nil))) (pe_lst (pa_cons pe_int pa_nil)) (nomark _)) (pw_or1 (pt_cmpR (op_neE hr.units0) (pe_call (ok_turns T) (hr.mono (by decide)) rfl T.m_turns T.F_turns.kp T.b_turns .nil pass0 (pa_cons (pe_lst (pa_cons pe_int (pa_cons pe_int (pa_cons pe_int (pa_cons pe_int pa_nil))))) (pa_cons (pe_lst (pa_cons pe_int (pa_cons pe_int (pa_cons pe_int (pa_cons pe_int pa_nil))))) pa_nil))) (pe_lst pa_nil) (nomark _)))))
      (pss_one (ps_ret pe_bl))
      pss_nil)
    (pss_cons (ps_set (i := 10) sc_law.nd rfl (Or.inl rfl) (pe_listRg rfl rfl T.n_list (prg_2 rfl T.n_range pe_int pe_int)))
    (pss_cons (ps_for PassesOwn.never rfl (pi_list (pe_lst (pa_cons pe_int (pa_cons pe_int (pa_cons pe_int (pa_cons pe_int pa_nil)))))) (pg_name (i := 11) sc_law.nd rfl (Or.inl rfl))
      (pss_one (ps_if (pt_not (pt_val (pe_callG (ok_Lright T) (hr.mono (by decide)) gd rfl T.m_Lright T.F_Lright.kp T.b_Lright .nil pass0 (pa_cons (pv 10) (pa_cons (pe_op op_cat (pe_slice sl_list (pv 10) (po_some (pv 11)) po_none) (pe_slice sl_list (pv 10) po_none (po_some (pv 11)))) pa_nil)))))
        (pss_one (ps_ret pe_bl))
        pss_nil)))
    (pss_one (ps_ret (pe_and (pe_callG (ok_Lright T) (hr.mono (by decide)) gd rfl T.m_Lright T.F_Lright.kp T.b_Lright .nil pass0 (pa_cons (pe_lst (pa_cons pe_int (pa_cons pe_int (pa_cons pe_int (pa_cons pe_int pa_nil))))) (pa_cons (pe_lst (pa_cons pe_int (pa_cons pe_int (pa_cons pe_int (pa_cons pe_int pa_nil))))) pa_nil))) (pe_one (pe_callG (ok_Lright T) (hr.mono (by decide)) gd rfl T.m_Lright T.F_Lright.kp T.b_Lright .nil pass0 (pa_cons (pe_lst (pa_cons pe_int (pa_cons pe_int (pa_cons pe_int pa_nil)))) (pa_cons (pe_lst (pa_cons pe_int (pa_cons pe_int (pa_cons pe_int pa_nil)))) pa_nil)))))))))))), ?_⟩
    rw [show start ["_law_script", "_law_draws_here", "_law_most", "_law_order", "_law_other", "_law_first", "_law_last", "_law_seats", "_law_ties", "_law_standing", "_law_ordered", "_law_at", "_law_cell"] [.ref a] = [some (.ref a), none, none, none, none, none, none, none, none, none, none, none, none] from rfl]
    refine g_cut (fun σ' H' => ∃ x1 x2 x3 x4 x5 x6 x7 x8 x9, σ' = [some (.ref a), x1, x2, x3, x4, x5, x6, x7, x8, x9, none, none, none] ∧ Kp [] H H') ?_ ?_
    · walk_at "go"
      refine ⟨a, ns.map V.int, rfl, ha, fun sl hsl => ?_⟩
      rw [cut_any (i := 5) (k := 5) rfl, ← List.map_take]
      walk_at "go"
      rename_i z hz
      have slz : sl ≠ z := ne_of_none (o := .lst ((ns.take 5).map V.int)) upd_same hz
      have hK1 : Kp [] H (upd H sl (.lst ((ns.take 5).map V.int))) := (Kp.refl _ _).put hsl
      have hK2 := hK1.put (o := .lst [.int 0]) (hK1.free hz)
      have e1 : (upd (upd H sl (.lst ((ns.take 5).map V.int))) z (.lst [.int 0])) sl = some (.lst ((ns.take 5).map V.int)) := by rw [upd_ne slz]; exact upd_same
      have e2 : (upd (upd H sl (.lst ((ns.take 5).map V.int))) z (.lst [.int 0])) z = some (.lst [.int 0]) := upd_same
      generalize upd (upd H sl (.lst ((ns.take 5).map V.int))) z (.lst [.int 0]) = G0 at *
      refine g_cat e1 e2 (triv_sz (by rw [List.length_map, List.length_take]; simp; omega)) fun c hc => ?_
      have hK0 := hK2.put (o := .lst ((ns.take 5).map V.int ++ [.int 0])) (hK2.free hc)
      have hc1 : (upd G0 c (.lst ((ns.take 5).map V.int ++ [.int 0]))) c = some (.lst ((ns.take 5 ++ [0]).map V.int)) := by rw [upd_same, List.map_append]; rfl
      generalize upd G0 c (.lst ((ns.take 5).map V.int ++ [.int 0])) = G1 at *
      clear hK1 hK2 e1 e2 slz hz hsl hc
      have len6 : (ns.take 5 ++ [0]).length ≤ 6 := by rw [List.length_append, List.length_take]; simp; omega
      generalize ns.take 5 ++ [0] = cs at hc1 len6 ⊢
      walk_at "go"
      refine g_lc (walk_list (xs := cs.map V.int)) (w0 := [some (.ref a), none, none, none, none, none, none, none, none, none, none, none, none]) rfl fun D hD =>
        ⟨fun j G => ∃ dl : List Addr, dl.length = j ∧ DH H dl D 0 G ∧ G c = some (.lst (cs.map V.int)),
          ⟨[], rfl, ⟨hK0.put (hK0.free hD), upd_same, fun _ z => (nomatch z)⟩, by rw [upd_ne (ne_of_none hc1 hD)]; exact hc1⟩, fun j G _ h => ?_, ?_, ?_⟩
      · obtain ⟨_, _, _, h⟩ := h
        exact SqL.of h
      · rintro j x G G' hj ⟨dl, hn2, hDH, hcc⟩ ⟨rfl, hx⟩
        rw [List.getElem?_map] at hx
        obtain ⟨i0, hi0, rfl⟩ := Option.map_eq_some_iff.mp hx
        rw [List.length_map] at hj
        walk_at "go"
        refine g_kLg rfl ?_
        walk_at "go"
        refine ⟨i0, rfl, fun d dst G2 hd hK2 hdr hdk _ => ?_⟩
        have hD2 := hDH.keep hK2 (M' := 0) (Nat.le_refl _)
        have dD : d ≠ D := fun e => by rw [e, hDH.l] at hd; cases hd
        have HD := hK0.free hD
        have Dd : D ≠ c := fun e => by rw [e, hc1] at hD; cases hD
        refine g_kLe hD2.l (triv_szl (by rw [List.length_map]; omega)) ⟨dl ++ [d], by rw [List.length_append, hn2]; rfl, ⟨hD2.kp.put HD (NC.some hD2.l rfl), by rw [List.map_append]; exact upd_same, fun e he => ?_⟩, by rw [upd_ne (Ne.symm Dd)]; exact hK2.lst nin0 hcc⟩
        rcases List.mem_append.mp he with he | he
        · obtain ⟨a1, a2, a3⟩ := hD2.ds e he
          exact ⟨a1, a2, a3.put a2⟩
        · obtain rfl := List.mem_singleton.mp he
          exact ⟨hDH.kp.free hd, dD, Draws.put ⟨dst, hdr, hdk⟩ dD⟩
      · rintro G ⟨dl, hn2, hDH, hcc⟩
        rw [List.length_map] at hn2
        walk_at "go"
        refine g_kIL hDH.l ?_
        refine g_forL (xs := dl.map V.ref) (fun i σ' G => ∃ x1 x2 x3 x4 x5 x6 x7 x8 x9, σ' = [some (.ref a), x1, x2, x3, x4, x5, x6, x7, x8, x9, none, none, none] ∧ DH H dl D (40000 * i) G)
          ⟨_, _, _, _, _, _, _, _, _, rfl, hDH⟩ (fun i σ' G _ h => by obtain ⟨_, _, _, _, _, _, _, _, _, _, h⟩ := h; exact SqL.of h.l) ?_ ?_
        · clear hDH hcc G
          rintro i x σ' G hi ⟨x1, x2, x3, x4, x5, x6, x7, x8, x9, rfl, hDH⟩
          rw [List.getElem?_map] at hi
          obtain ⟨d, hd, rfl⟩ := Option.map_eq_some_iff.mp hi
          have il := (List.getElem?_eq_some_iff.mp hd).1
          have din := List.mem_of_getElem? hd
          refine g_cut (fun σ' G => ∃ x2 x3 x4 x5 x6, σ' = [some (.ref a), some (.ref d), x2, x3, x4, x5, x6, x7, x8, x9, none, none, none] ∧ DH H dl D (40000 * i + 20000) G) ?_ ?_
          · walk_at "go"
            rename_i ml hml
            have hml0 : H ml = none := hDH.kp.free hml
            have dml : ∀ e ∈ dl, e ≠ ml := fun e he z => (hDH.ds e he).2.2.ne (by rw [z]; exact hml)
            have hDH := hDH.keep (Kp.new (o := .lst [.int 5, .int 8, .int 40]) hml) (Nat.le_refl _)
            have eml : (upd G ml (.lst [.int 5, .int 8, .int 40])) ml = some (.lst [.int 5, .int 8, .int 40]) := upd_same
            generalize upd G ml (.lst [.int 5, .int 8, .int 40]) = G1 at *
            refine g_forL (xs := [.int 5, .int 8, .int 40]) (fun j σ' G => ∃ x2 x3 x4 x5 x6, σ' = [some (.ref a), some (.ref d), x2, x3, x4, x5, x6, x7, x8, x9, none, none, none] ∧ DH H dl D (40000 * i + 5000 * j) G ∧ G ml = some (.lst [.int 5, .int 8, .int 40]))
              ⟨_, _, _, _, _, rfl, hDH, eml⟩ (fun j σ' G _ h => by obtain ⟨_, _, _, _, _, _, _, h⟩ := h; exact SqL.of h) ?_ ?_
            · clear hDH eml hml
              rintro j x σ' G hj ⟨x2, x3, x4, x5, x6, rfl, hDH, eml⟩
              have jl := (List.getElem?_eq_some_iff.mp hj).1
              simp only [List.length_cons, List.length_nil] at jl
              obtain ⟨most, rfl, mo⟩ : ∃ most : Int, x = .int most ∧ (most = 5 ∨ most = 8 ∨ most = 40) := by
                have := List.mem_of_getElem? hj
                simp at this
                rcases this with rfl | rfl | rfl
                · exact ⟨_, rfl, .inl rfl⟩
                · exact ⟨_, rfl, .inr (.inl rfl)⟩
                · exact ⟨_, rfl, .inr (.inr rfl)⟩
              generalize eM : 40000 * i + 5000 * j = M at hDH
              have Mle : M ≤ 1000000 := by omega
              obtain ⟨d1, d2, d3⟩ := hDH.ds d din
              have dm := dml d din
              walk_at "go"
              refine ⟨d, M, rfl, d3, by omega, fun r G2 r0 r1 k2 dr2 => ?_⟩
              walk_at "go"
              have b0 := Int.emod_nonneg r (b := most - 2) (by omega)
              have b1 := Int.emod_lt_of_pos r (b := most - 2) (by omega)
              obtain ⟨n, en⟩ : ∃ n : Nat, 4 + r % (most - 2) = ((n : Nat) : Int) + 1 := ⟨(3 + r % (most - 2)).toNat, by omega⟩
              have n3 : 3 ≤ n := by omega
              have nm : (n : Int) ≤ most := by omega
              have n40 : n ≤ 40 := by omega
              rw [en]
              walk_at "go"
              rename_i u hu
              rw [rgV_up]
              generalize r % (most - 2) = rr at *
              have hDH := hDH.step k2 dr2 (by omega) din
              have eml := k2.lst (nin1 (Ne.symm dm)) eml
              have k3 : Kp [] G2 (upd G2 u (.lst ((up n).map V.int))) := Kp.new hu
              have eu : upd G2 u (.lst ((up n).map V.int)) u = some (.lst ((up n).map V.int)) := upd_same
              have ud : u ≠ d := fun z => dr2.ne (by rw [← z]; exact hu)
              have dr3 := dr2.kp k3
              have hDH := hDH.keep k3 (Nat.le_refl _)
              have eml := k3.lst nin0 eml
              generalize upd G2 u (.lst ((up n).map V.int)) = G3 at *
              clear k2 k3 hu dr2 d3 en b0 b1 r0 r1
              refine ⟨d, u, M + 1, (up n).map V.int, rfl, dr3, eu, ud, by rw [List.length_map, up_length]; omega, by rw [List.length_map, up_length]; omega, fun op ys G4 op0 perm k4 d4 eop => ?_⟩
              obtain ⟨o, rfl, hO⟩ := ints_perm perm
              have hO : Stand n o := hO
              rw [List.length_map, up_length] at d4
              have opd : op ≠ d := fun z => dr3.ne (by rw [← z]; exact op0)
              have hDH := hDH.step k4 d4 (by omega) din
              have eml := k4.lst (nin1 (Ne.symm dm)) eml
              clear k4 dr3 eu ud perm op0
              walk_at "go"
              refine ⟨d, op, M + 1 + n, n, o, rfl, d4, by omega, eop, opd, n3, n40, hO, fun qq ps G5 qq0 k5 d5 eqq hps => ?_⟩
              have hDH := hDH.step k5 d5 (by omega) din
              have eml := k5.lst (nin1 (Ne.symm dm)) eml
              have eop := k5.lst (nin1 opd) eop
              clear k5 d4 d5 qq0
              have lo := hO.length
              have hT5 := hDH.kp.tabs hT
              walk_at "go"
              refine g_forL (xs := ps.map V.ref) (fun l σ' G => ∃ x4 x5 x6, σ' = [some (.ref a), some (.ref d), some (.int most), some (.ref op), x4, x5, x6, x7, x8, x9, none, none, none] ∧ Kp [] G5 G)
                ⟨_, _, _, rfl, Kp.refl _ _⟩ (fun l σ' G _ h => by obtain ⟨_, _, _, _, h⟩ := h; exact SqL.of (h.lst nin0 eqq)) ?_ ?_
              · rintro l x σ' G hl ⟨x4, x5, x6, rfl, hK⟩
                rw [List.getElem?_map] at hl
                obtain ⟨p', hp', rfl⟩ := Option.map_eq_some_iff.mp hl
                obtain ⟨_, o', hO', ep'⟩ := hps p' (List.mem_of_getElem? hp')
                have lo' := hO'.length
                walk_at "go"
                refine ⟨op, p', o, o', n, rfl, hK.lst nin0 eop, hK.lst nin0 ep', n3, n40, hO, hO', hK.tabs hT5, fun G6 k6 => ?_⟩
                have hK := hK.trans k6
                clear k6
                walk_at "go"
                refine ⟨op, o, n, rfl, hK.lst nin0 eop, by omega, n40, hO, fun f1 H1 f10 kk1 e1 => ?_⟩
                walk_at "go"
                refine ⟨p', o', n, rfl, (hK.trans kk1).lst nin0 ep', by omega, n40, hO', fun f2 H2 f20 kk2 e2 => ?_⟩
                have e1 := kk2.lst nin0 e1
                have hK := hK.trans (kk1.trans kk2)
                have eopH := hK.lst nin0 eop
                clear kk1 kk2 f10 f20
                have hBA := brk_bks (n := n) (by omega) hO
                have hBB := brk_bks (n := n) (by omega) hO'
                walk_at "go"
                rw [List.length_map, lo]
                walk_at "go"
                refine g_kD (fun n9 => ?_) (fun _ => ?_)
                · walk_at "go"
                  rw [List.length_map, List.length_map]
                  walk_at "go"
                  refine g_kD (fun hb => ?_) (fun _ => ?_)
                  · have hb : (brk n o).length = (brk n o').length := by omega
                    obtain ⟨mm, hm⟩ := leas_ex hBA hBB hb
                    walk_at "go"
                    rw [List.length_map, lo]
                    walk_at "go"
                    refine ⟨f1, f2, brk n o, brk n o', n, mm, rfl, e1, e2, hBA, hBB, hb, by omega, hm, fun H3 k3 => ?_⟩
                    have e1 := k3.lst nin0 e1
                    have e2 := k3.lst nin0 e2
                    have hK := hK.trans k3
                    have eopH := k3.lst nin0 eopH
                    walk_at "go"
                    rw [List.length_map, lo]
                    walk_at "go"
                    refine ⟨f1, f2, brk n o, brk n o', n, mm, rfl, e1, e2, hBA, hBB, hb, n40, hm, fun H4 k4 => ?_⟩
                    walk_at "go"
                    refine g_kNX rfl ?_
                    walk_at "go"
                    exact ⟨_, _, _, rfl, hK.trans k4⟩
                  · exact ⟨_, _, _, rfl, hK⟩
                · exact ⟨_, _, _, rfl, hK⟩
              · rintro σ' G ⟨x4, x5, x6, rfl, hK⟩
                exact ⟨_, _, _, _, _, rfl, hDH.keep hK (by omega), hK.lst nin0 eml⟩
            · rintro σ' G ⟨x2, x3, x4, x5, x6, rfl, hDH, _⟩
              exact ⟨_, _, _, _, _, rfl, hDH.keep (Kp.refl _ _) (by simp)⟩
          clear hDH G
          rintro σ' G ⟨x2, x3, x4, x5, x6, rfl, hDH⟩
          generalize eM : 40000 * i + 20000 = M at hDH
          have Mle : M ≤ 1000000 := by omega
          obtain ⟨d1, d2, d3⟩ := hDH.ds d din
          walk_at "go"
          refine ⟨d, M, 12, rfl, d3, by omega, by decide, by decide, fun tp tq n ts G2 n3 nm hN tp0 etp htq k2 dr2 => ?_⟩
          have n40 : n ≤ 40 := by omega
          have hDH := hDH.step k2 dr2 (by omega) din
          have tqd : Da (fun b => b ≠ d) G2 (.ref tq) (netD ts) := htq.imp fun b hb z => d3.ne (by rw [← z]; exact hb)
          clear k2 d3
          walk_at "go"
          rename_i u hu
          rw [rgV_up]
          have k3 : Kp [] G2 (upd G2 u (.lst ((up n).map V.int))) := Kp.new hu
          have eu : upd G2 u (.lst ((up n).map V.int)) u = some (.lst ((up n).map V.int)) := upd_same
          have ud : u ≠ d := fun z => dr2.ne (by rw [← z]; exact hu)
          have dr3 := dr2.kp k3
          have hDH := hDH.keep k3 (Nat.le_refl _)
          have tqd := tqd.keep k3 (fun _ _ => nin0) fun _ h => h
          generalize upd G2 u (.lst ((up n).map V.int)) = G3 at *
          clear k3 hu dr2 htq etp tp0
          refine ⟨d, u, M + 2000, (up n).map V.int, rfl, dr3, eu, ud, by rw [List.length_map, up_length]; omega, by rw [List.length_map, up_length]; omega, fun rp ys G4 rp0 perm k4 d4 erp => ?_⟩
          obtain ⟨row, rfl, hR⟩ := ints_perm perm
          have hR : Stand n row := hR
          rw [List.length_map, up_length] at d4
          have rpd : rp ≠ d := fun z => dr3.ne (by rw [← z]; exact rp0)
          have hDH := hDH.step k4 d4 (by omega) din
          have tqd := tqd.keep k4 (fun b hb => nin1 hb) fun _ h => h
          clear k4 dr3 eu ud perm rp0
          walk_at "go"
          rename_i u2 hu2
          rw [rgV_up]
          have k3 : Kp [] G4 (upd G4 u2 (.lst ((up n).map V.int))) := Kp.new hu2
          have eu : upd G4 u2 (.lst ((up n).map V.int)) u2 = some (.lst ((up n).map V.int)) := upd_same
          have ud : u2 ≠ d := fun z => d4.ne (by rw [← z]; exact hu2)
          have dr3 := d4.kp k3
          have hDH := hDH.keep k3 (Nat.le_refl _)
          have tqd := tqd.keep k3 (fun _ _ => nin0) fun _ h => h
          have erp := k3.lst nin0 erp
          generalize upd G4 u2 (.lst ((up n).map V.int)) = G5 at *
          clear k3 hu2 d4
          refine ⟨d, u2, M + 2000 + n, (up n).map V.int, rfl, dr3, eu, ud, by rw [List.length_map, up_length]; omega, by rw [List.length_map, up_length]; omega, fun op ys G6 op0 perm k4 d4 eop => ?_⟩
          obtain ⟨o, rfl, hO⟩ := ints_perm perm
          have hO : Stand n o := hO
          rw [List.length_map, up_length] at d4
          have opd : op ≠ d := fun z => dr3.ne (by rw [← z]; exact op0)
          have hDH := hDH.step k4 d4 (by omega) din
          have tqd := tqd.keep k4 (fun b hb => nin1 hb) fun _ h => h
          have erp := k4.lst (nin1 rpd) erp
          clear k4 dr3 eu ud perm op0
          walk_at "go"
          refine ⟨d, op, M + 2000 + n + n, n, o, rfl, d4, by omega, eop, opd, n3, n40, hO, fun qq ps G7 qq0 k5 d5 eqq hps => ?_⟩
          have hDH := hDH.step k5 d5 (by omega) din
          have tqd := tqd.keep k5 (fun b hb => nin1 hb) fun _ h => h
          have erp := k5.lst (nin1 rpd) erp
          have eop := k5.lst (nin1 opd) eop
          have hNt : Nt G7 (.ref tq) ts := tqd.imp fun _ _ => trivial
          clear k5 d4 d5 qq0
          have hT7 := hDH.kp.tabs hT
          walk_at "go"
          refine g_forL (xs := ps.map V.ref) (fun l σ' G => ∃ x4, σ' = [some (.ref a), some (.ref d), x2, some (.ref op), x4, x5, x6, some (.int n), some (.ref tq), some (.ref rp), none, none, none] ∧ Kp [] G7 G)
            ⟨_, rfl, Kp.refl _ _⟩ (fun l σ' G _ h => by obtain ⟨_, _, h⟩ := h; exact SqL.of (h.lst nin0 eqq)) ?_ ?_
          · rintro l x σ' G hl ⟨x4, rfl, hK⟩
            rw [List.getElem?_map] at hl
            obtain ⟨p', hp', rfl⟩ := Option.map_eq_some_iff.mp hl
            obtain ⟨_, o', hO', ep'⟩ := hps p' (List.mem_of_getElem? hp')
            walk_at "go"
            refine ⟨n, ts, .ref tq, rp, op, p', row, o, o', rfl, ntKp30 hNt hK, hK.lst nin0 erp, hK.lst nin0 eop, hK.lst nin0 ep', n3, n40, hN, hR, hO, hO', hK.tabs hT7, fun G8 k8 => ?_⟩
            walk_at "go"
            exact ⟨_, rfl, hK.trans k8⟩
          · rintro σ' G ⟨x4, rfl, hK⟩
            walk_at "go"
            exact ⟨_, _, _, _, _, _, _, _, _, rfl, hDH.keep hK (by omega)⟩
        · rintro σ' G ⟨x1, x2, x3, x4, x5, x6, x7, x8, x9, rfl, hDH⟩
          walk_at "go"
          exact ⟨_, _, _, _, _, _, _, _, _, rfl, hDH.kp⟩
    rintro σ' G ⟨x1, x2, x3, x4, x5, x6, x7, x8, x9, rfl, hK⟩
    walk_at "go"
    rename_i p1 hp1 p2 hp2
    have k1 : Kp [] G (upd (upd G p1 (.lst [.int 1, .int 2, .int 3, .int 4])) p2 (.lst [.int 3, .int 4, .int 1, .int 2])) := (Kp.new hp1).trans (Kp.new hp2)
    have e2 : upd (upd G p1 (.lst [.int 1, .int 2, .int 3, .int 4])) p2 (.lst [.int 3, .int 4, .int 1, .int 2]) p2 = some (.lst (([3, 4, 1, 2] : List Int).map V.int)) := upd_same
    have e1 : upd (upd G p1 (.lst [.int 1, .int 2, .int 3, .int 4])) p2 (.lst [.int 3, .int 4, .int 1, .int 2]) p1 = some (.lst (([1, 2, 3, 4] : List Int).map V.int)) := (upd_ne (ne_of_none upd_same hp2)).trans upd_same
    have hK := hK.trans k1
    generalize upd (upd G p1 (.lst [.int 1, .int 2, .int 3, .int 4])) p2 (.lst [.int 3, .int 4, .int 1, .int 2]) = G1 at *
    clear k1 hp1 hp2
    refine ⟨p1, p2, [1, 2, 3, 4], [3, 4, 1, 2], 4, rfl, e1, e2, by decide, by decide, s1234, s3412, hK.tabs hT, fun ne => absurd b1234_3412 ne, fun _ m G2 hm k2 => ?_⟩
    obtain rfl := hm.uniq l1234
    have hK := hK.trans k2
    clear k2 e1 e2
    walk_at "go"
    rename_i p1 hp1 p2 hp2
    have k1 : Kp [] G2 (upd (upd G2 p1 (.lst [.int 1, .int 3, .int 2, .int 4])) p2 (.lst [.int 1, .int 2, .int 3, .int 4])) := (Kp.new hp1).trans (Kp.new hp2)
    have e2 : upd (upd G2 p1 (.lst [.int 1, .int 3, .int 2, .int 4])) p2 (.lst [.int 1, .int 2, .int 3, .int 4]) p2 = some (.lst (([1, 2, 3, 4] : List Int).map V.int)) := upd_same
    have e1 : upd (upd G2 p1 (.lst [.int 1, .int 3, .int 2, .int 4])) p2 (.lst [.int 1, .int 2, .int 3, .int 4]) p1 = some (.lst (([1, 3, 2, 4] : List Int).map V.int)) := (upd_ne (ne_of_none upd_same hp2)).trans upd_same
    have hK := hK.trans k1
    generalize upd (upd G2 p1 (.lst [.int 1, .int 3, .int 2, .int 4])) p2 (.lst [.int 1, .int 2, .int 3, .int 4]) = G1 at *
    clear k1 hp1 hp2
    refine ⟨p1, p2, [1, 3, 2, 4], [1, 2, 3, 4], 4, rfl, e1, e2, by decide, by decide, s1324, s1234, hK.tabs hT, fun _ G3 k2 => ?_, fun ne => absurd ne b1324_1234⟩
    have hK := hK.trans k2
    clear k2 e1 e2
    walk_at "go"
    rename_i p1 hp1 p2 hp2
    have e1 : upd (upd G3 p1 (.lst [.int ((2 : Nat) : Int), .non])) p2 (.lst [.int 2, .non]) p1 = some (.lst [.int ((2 : Nat) : Int), .non]) := (upd_ne (ne_of_none upd_same hp2)).trans upd_same
    have k1 : Kp [] G3 (upd (upd G3 p1 (.lst [.int ((2 : Nat) : Int), .non])) p2 (.lst [.int 2, .non])) := (Kp.new hp1).trans (Kp.new hp2)
    refine g_neD (.lst (SqL.of e1) (.cons (.int _) (.cons .non .nil))) (.lst (SqL.of upd_same) (.cons (.int _) (.cons .non .nil))) (by decide) (by decide) ?_
    have hK := hK.trans k1
    generalize upd (upd G3 p1 (.lst [.int ((2 : Nat) : Int), .non])) p2 (.lst [.int 2, .non]) = G1 at *
    clear k1 hp1 hp2 e1
    rw [show (!PyData.eqv (PyData.list [.int ((2 : Nat) : Int), .none]) (PyData.list [.int 2, .none])) = false by decide +kernel]
    walk_at "go"
    rename_i p1 hp1 p2 hp2
    have k1 : Kp [] G1 (upd (upd G1 p1 (.lst [.int 1, .int 2, .int 3, .int 4, .int 5])) p2 (.lst [.int 2, .int 3, .int 4, .int 5, .int 1])) := (Kp.new hp1).trans (Kp.new hp2)
    have e2 : upd (upd G1 p1 (.lst [.int 1, .int 2, .int 3, .int 4, .int 5])) p2 (.lst [.int 2, .int 3, .int 4, .int 5, .int 1]) p2 = some (.lst (([2, 3, 4, 5, 1] : List Int).map V.int)) := upd_same
    have e1 : upd (upd G1 p1 (.lst [.int 1, .int 2, .int 3, .int 4, .int 5])) p2 (.lst [.int 2, .int 3, .int 4, .int 5, .int 1]) p1 = some (.lst (([1, 2, 3, 4, 5] : List Int).map V.int)) := (upd_ne (ne_of_none upd_same hp2)).trans upd_same
    have hK := hK.trans k1
    generalize upd (upd G1 p1 (.lst [.int 1, .int 2, .int 3, .int 4, .int 5])) p2 (.lst [.int 2, .int 3, .int 4, .int 5, .int 1]) = G2 at *
    clear k1 hp1 hp2
    refine ⟨p1, p2, [1, 2, 3, 4, 5], [2, 3, 4, 5, 1], 5, rfl, e1, e2, by decide, by decide, s12345, s23451, hK.tabs hT, fun ne => absurd b12345 ne, fun _ m k cs t1 G3 eb hTT t10 k2 et1 => ?_⟩
    obtain ⟨rfl, rfl⟩ := Prod.mk.inj (Option.some.inj (eb.symm.trans best12345))
    obtain rfl := hTT.uniq tt12345
    have hK := hK.trans k2
    clear k2 e1 e2 hTT eb
    walk_at "go"
    rename_i p3 hp3
    have k3 : Kp [] G3 (upd G3 p3 (.lst [.int 1])) := Kp.new hp3
    refine g_neI2 (k3.lst nin0 et1) (show _ = some (.lst (([1] : List Int).map V.int)) from upd_same) ?_
    have hK := hK.trans k3
    generalize upd G3 p3 (.lst [.int 1]) = G4 at *
    clear k3 hp3 et1
    walk_at "go"
    refine g_kNX rfl ?_
    walk_at "go"
    rename_i p1 hp1 p2 hp2
    have k1 : Kp [] G4 (upd (upd G4 p1 (.lst [.int 1, .int 3, .int 2, .int 4])) p2 (.lst [.int 3, .int 1, .int 4, .int 2])) := (Kp.new hp1).trans (Kp.new hp2)
    have e2 : upd (upd G4 p1 (.lst [.int 1, .int 3, .int 2, .int 4])) p2 (.lst [.int 3, .int 1, .int 4, .int 2]) p2 = some (.lst (([3, 1, 4, 2] : List Int).map V.int)) := upd_same
    have e1 : upd (upd G4 p1 (.lst [.int 1, .int 3, .int 2, .int 4])) p2 (.lst [.int 3, .int 1, .int 4, .int 2]) p1 = some (.lst (([1, 3, 2, 4] : List Int).map V.int)) := (upd_ne (ne_of_none upd_same hp2)).trans upd_same
    have hK := hK.trans k1
    generalize upd (upd G4 p1 (.lst [.int 1, .int 3, .int 2, .int 4])) p2 (.lst [.int 3, .int 1, .int 4, .int 2]) = G5 at *
    clear k1 hp1 hp2
    refine ⟨p1, p2, [1, 3, 2, 4], [3, 1, 4, 2], 4, rfl, e1, e2, by decide, by decide, s1324, s3142, hK.tabs hT, fun ne => absurd b1324_3142 ne, fun _ m k cs t2 G6 eb hTT t20 k2 et2 => ?_⟩
    obtain ⟨rfl, rfl⟩ := Prod.mk.inj (Option.some.inj (eb.symm.trans best1324))
    obtain rfl := hTT.uniq tt1324
    have hK := hK.trans k2
    clear k2 e1 e2 hTT eb
    walk_at "go"
    rename_i p4 hp4
    have hK := hK.trans (Kp.new (S := []) (o := .lst []) hp4)
    generalize upd G6 p4 (.lst []) = G7 at *
    clear hp4 et2
    refine g_kX rfl ?_
    walk_at "go"
    rename_i u hu al hal
    rw [show rgV 1 41 = (up 40).map V.int from rgV_up (n := 40)] at *
    have eu : upd G7 u (.lst ((up 40).map V.int)) u = some (.lst ((up 40).map V.int)) := upd_same
    have hK := hK.trans (Kp.new (S := []) (o := .lst ((up 40).map V.int)) hu)
    generalize upd G7 u (.lst ((up 40).map V.int)) = G8 at *
    clear hu
    have hK := hK.trans (Kp.new (S := []) (o := .lst [.int 1, .int 7, .int 20, .int 39]) hal)
    have eu := (Kp.new (S := []) (o := .lst [.int 1, .int 7, .int 20, .int 39]) hal).lst nin0 eu
    have eal : upd G8 al (.lst [.int 1, .int 7, .int 20, .int 39]) al = some (.lst [.int 1, .int 7, .int 20, .int 39]) := upd_same
    generalize upd G8 al (.lst [.int 1, .int 7, .int 20, .int 39]) = G9 at *
    have sup : Stand 40 (up 40) := List.Perm.refl _
    refine g_forL (xs := [.int 1, .int 7, .int 20, .int 39]) (fun l σ' G => ∃ x11, σ' = [some (.ref a), x1, x2, x3, x4, x5, x6, x7, x8, x9, some (.ref u), x11, none] ∧ Kp [] G9 G)
      ⟨_, rfl, Kp.refl _ _⟩ (fun l σ' G _ h => by obtain ⟨_, _, h⟩ := h; exact SqL.of (h.lst nin0 eal)) ?_ ?_
    · rintro l x σ' G hl ⟨x11, rfl, hK2⟩
      obtain ⟨k, rfl⟩ : ∃ k : Nat, x = .int (k : Nat) := by
        have := List.mem_of_getElem? hl
        simp at this
        rcases this with rfl | rfl | rfl | rfl
        · exact ⟨1, rfl⟩
        · exact ⟨7, rfl⟩
        · exact ⟨20, rfl⟩
        · exact ⟨39, rfl⟩
      have euG := hK2.lst nin0 eu
      walk_at "go"
      rename_i q1 hq1 q2 hq2
      have es1 : cutV ((up 40).map V.int) (some (k : Int)) none = ((up 40).drop k).map V.int := by rw [cut_from (k := k) rfl, List.map_drop]
      have es2 : cutV ((up 40).map V.int) none (some (k : Int)) = ((up 40).take k).map V.int := by rw [cut_any (k := k) rfl, List.map_take]
      rw [es1] at hq2
      rw [es1, es2]
      have k7 : Kp [] G (upd (upd G q1 (.lst (((up 40).drop k).map V.int))) q2 (.lst (((up 40).take k).map V.int))) := (Kp.new hq1).trans (Kp.new hq2)
      have e1' : upd (upd G q1 (.lst (((up 40).drop k).map V.int))) q2 (.lst (((up 40).take k).map V.int)) q1 = some (.lst (((up 40).drop k).map V.int)) := (upd_ne (ne_of_none upd_same hq2)).trans upd_same
      refine g_catI e1' upd_same (by rw [List.length_drop, List.length_take, up_length]; omega) fun q3 G5 q30 k8 e8 => ?_
      have k9 := hK2.trans (k7.trans k8)
      walk_at "go"
      refine ⟨u, q3, up 40, _, 40, rfl, k9.lst nin0 eu, e8, by decide, by decide, sup, stand_cut sup k, (hK.trans k9).tabs hT, fun G6 k6 => ?_⟩
      walk_at "go"
      exact ⟨_, rfl, k9.trans k6⟩
    rintro σ' G ⟨x11, rfl, hK2⟩
    have hK := hK.trans hK2
    clear hK2 eu eal
    walk_at "go"
    rename_i p1 hp1 p2 hp2
    have k1 : Kp [] G (upd (upd G p1 (.lst [.int 2, .int 4, .int 1, .int 3])) p2 (.lst [.int 1, .int 3, .int 2, .int 4])) := (Kp.new hp1).trans (Kp.new hp2)
    have e2 : upd (upd G p1 (.lst [.int 2, .int 4, .int 1, .int 3])) p2 (.lst [.int 1, .int 3, .int 2, .int 4]) p2 = some (.lst (([1, 3, 2, 4] : List Int).map V.int)) := upd_same
    have e1 : upd (upd G p1 (.lst [.int 2, .int 4, .int 1, .int 3])) p2 (.lst [.int 1, .int 3, .int 2, .int 4]) p1 = some (.lst (([2, 4, 1, 3] : List Int).map V.int)) := (upd_ne (ne_of_none upd_same hp2)).trans upd_same
    have hK := hK.trans k1
    generalize upd (upd G p1 (.lst [.int 2, .int 4, .int 1, .int 3])) p2 (.lst [.int 1, .int 3, .int 2, .int 4]) = G5 at *
    clear k1 hp1 hp2
    refine ⟨p1, p2, [2, 4, 1, 3], [1, 3, 2, 4], 4, rfl, e1, e2, by decide, by decide, s2413, s1324, hK.tabs hT, fun G6 k6 => ?_⟩
    have hK := hK.trans k6
    clear k6 e1 e2
    walk_at "go"
    rename_i p1 hp1 p2 hp2
    have k1 : Kp [] G6 (upd (upd G6 p1 (.lst [.int 1, .int 2, .int 3])) p2 (.lst [.int 1, .int 2, .int 3])) := (Kp.new hp1).trans (Kp.new hp2)
    have e2 : upd (upd G6 p1 (.lst [.int 1, .int 2, .int 3])) p2 (.lst [.int 1, .int 2, .int 3]) p2 = some (.lst (([1, 2, 3] : List Int).map V.int)) := upd_same
    have e1 : upd (upd G6 p1 (.lst [.int 1, .int 2, .int 3])) p2 (.lst [.int 1, .int 2, .int 3]) p1 = some (.lst (([1, 2, 3] : List Int).map V.int)) := (upd_ne (ne_of_none upd_same hp2)).trans upd_same
    have hK := hK.trans k1
    generalize upd (upd G6 p1 (.lst [.int 1, .int 2, .int 3])) p2 (.lst [.int 1, .int 2, .int 3]) = G7 at *
    clear k1 hp1 hp2
    exact ⟨p1, p2, [1, 2, 3], [1, 2, 3], 3, rfl, e1, e2, by decide, by decide, s123, s123, hK.tabs hT, fun G8 k8 => q _⟩
end
end Ap



namespace Ap
open PySem L2 PySem.Spec PyProof.Rows
theorem code_of_tab {K : PySem.W.Frag} {x : Str} {f c p : Addr} {oc : Value} {od : Option Addr} {fd : FuncData} {sl : Array (Option Value)} (a : PySem.W.nsIn K mainGlobals x = some (some (.ref f))) (l : K.lookup f = some ⟨oc, od, .func fd, sl⟩) (t : PySem.W.tabIn K x = some (c, p)) : fd.code = .ref c := by
  unfold PySem.W.tabIn at t
  rw [a] at t
  simp only [l] at t
  split at t
  · rename_i c' hc
    split at t
    · split at t
      · cases t; exact hc
      · cases t
    · cases t
  · cases t
theorem tab_mk {K : PySem.W.Frag} {x : Str} {f c p : Addr} {oc tc : Value} {od td : Option Addr} {fd : FuncData} {sl ts : Array (Option Value)} {tv : Array Value} (a : PySem.W.nsIn K mainGlobals x = some (some (.ref f))) (l : K.lookup f = some ⟨oc, od, .func fd, sl⟩) (e : fd.code = .ref c) (d : K.lookup c = some ⟨tc, td, .fields tv, ts⟩) (q : (tv[11]? : Option Value) = some (.ref p)) : PySem.W.tabIn K x = some (c, p) := by
  unfold PySem.W.tabIn
  rw [a]
  simp only [l, e, d, q]
theorem kbn_back {K : PySem.W.Frag} {x qual : Str} {st : Stmt} {f : Addr} {fd : FuncData} {ps ks : List Str} (F : Fun K x qual st f fd)
    (h : ∀ (kV doc pm : Value) (an : Option Addr) (cdv ct : Value) (us ws : List Value), us.length = 1 → ws.length = ks.length → bindArgs (PySem.W.fnOf x qual (defArgs st) (defBody st) (defScope st) .none kV doc pm an cdv ct) ⟨us, ks.zip ws⟩ = pure (ps.zip (us ++ ws.reverse))) :
    KBn K fd ps 1 ks (fun us ws => us ++ ws.reverse) (fun us ws => us ++ ws.reverse) := by
  obtain ⟨oc, od, kV, doc, pm, an, cdv, ct, osl, rfl, lk, hcd⟩ := F.ex
  exact ⟨fun s us ws _ h1 h2 => .of_eq (h _ _ _ _ _ _ us ws h1 h2), fun r1 r2 => r1.append r2.reverse⟩
theorem kit_own {K : PySem.W.Frag} {S : Addr} {x : String} (hm : PySem.W.kitMeta x = true) (h : PySem.W.subIn K (.ref S) (.type x) = some true) : PySem.W.kitOne K (.ref S) (.type x) = some true := by
  unfold PySem.W.kitOne
  split
  · rfl
  · show (if PySem.W.kitMeta x = true then PySem.W.subIn K (.ref S) (.type x) else none) = some true
    rw [if_pos hm]
    exact h
theorem kit_bi {K : PySem.W.Frag} {S : Addr} {x : String} {b : Bool} (h : PySem.W.subIn K (.ref S) (.type x) = some b) (hm : PySem.W.kitMeta x = true := by rfl) : PySem.W.kitOne K (.ref S) (.type x) = some b := by
  unfold PySem.W.kitOne
  rw [if_neg (show ¬ ((Value.ref S == Value.type x) = true) from fun z => nomatch z)]
  show (if PySem.W.kitMeta x = true then PySem.W.subIn K (.ref S) (.type x) else none) = some b
  rw [if_pos hm]
  exact h
theorem kit_yes {K : PySem.W.Frag} {S : Addr} : PySem.W.kitOne K (.ref S) (.ref S) = some true := by
  unfold PySem.W.kitOne
  rw [if_pos (by simp)]
theorem kit_no {K : PySem.W.Frag} {S Y : Addr} (h : PySem.W.subIn K (.ref S) (.ref Y) = some false) (s : PySem.W.subIn K (.ref S) (.ref S) = some true) (c : PySem.W.isClsIn K Y = true) (t : PySem.W.typeIn K (.ref Y) = some (.type "type")) : PySem.W.kitOne K (.ref S) (.ref Y) = some false := by
  have c' : (PySem.W.clsIn K Y).isSome = true := c
  have ne : ¬ ((Value.ref S == Value.ref Y) = true) := fun z => by
    have z : Value.ref S = Value.ref Y := by simpa using z
    cases z
    rw [s] at h
    cases h
  unfold PySem.W.kitOne
  rw [if_neg ne]
  show (if ((PySem.W.clsIn K Y).isSome && PySem.W.typeIn K (.ref Y) == some (.type "type")) = true then PySem.W.subIn K (.ref S) (.ref Y) else none) = some false
  rw [c', t, h]
  rfl
theorem exm_own {K : PySem.W.Frag} {S : Addr} (a : PySem.W.subIn K (.ref S) (.type "BaseException") = some true) (b : PySem.W.isClsIn K S = true) (c : PySem.W.typeIn K (.ref S) = some (.type "type")) (d : PySem.W.subIn K (.ref S) (.ref S) = some true) : PySem.W.exmOne K (.ref S) (.ref S) = some true := by
  have b' : (PySem.W.clsIn K S).isSome = true := b
  show (if (PySem.W.subIn K (.ref S) (.type "BaseException") == some true) = true then (if ((PySem.W.clsIn K S).isSome && PySem.W.typeIn K (.ref S) == some (.type "type")) = true then PySem.W.subIn K (.ref S) (.ref S) else none) else none) = some true
  rw [a, b', c, d]
  rfl
theorem trip_nil : TriplesOk (#[] : Array Value).toList := by
  first | trivial | exact .nil | constructor | decide
theorem law_is {l : PySem.W.OpenLaw} {w : World} {K : PySem.W.Frag} {mg mb : Str → Option Value} {fa : Addr} {h : Heap} {q : Program} {loose : List Str} {mean : ExcName → Option Value} (X : K.In h) (T0 : PyProof.Rows.Top q loose mean mg mb h) (hfa : mg "law" = some (.ref fa))
    (z_abs : PySem.W.nsIn K mainGlobals "abs" = some none)
    (z_all : PySem.W.nsIn K mainGlobals "all" = some none)
    (z_bool : PySem.W.nsIn K mainGlobals "bool" = some none)
    (z_enumerate : PySem.W.nsIn K mainGlobals "enumerate" = some none)
    (z_int : PySem.W.nsIn K mainGlobals "int" = some none)
    (z_isinstance : PySem.W.nsIn K mainGlobals "isinstance" = some none)
    (z_len : PySem.W.nsIn K mainGlobals "len" = some none)
    (z_list : PySem.W.nsIn K mainGlobals "list" = some none)
    (z_max : PySem.W.nsIn K mainGlobals "max" = some none)
    (z_min : PySem.W.nsIn K mainGlobals "min" = some none)
    (z_range : PySem.W.nsIn K mainGlobals "range" = some none)
    (z_repr : PySem.W.nsIn K mainGlobals "repr" = some none)
    (z_set : PySem.W.nsIn K mainGlobals "set" = some none)
    (z_sorted : PySem.W.nsIn K mainGlobals "sorted" = some none)
    (z_sum : PySem.W.nsIn K mainGlobals "sum" = some none)
    (z_tuple : PySem.W.nsIn K mainGlobals "tuple" = some none)
    (z_zip : PySem.W.nsIn K mainGlobals "zip" = some none)
    {t_FEWEST_SEATS : Tok} (z_FEWEST_SEATS : PySem.W.nsIn K mainGlobals "FEWEST_SEATS" = some (some (.int 3 t_FEWEST_SEATS)))
    {t_MOST_SEATS : Tok} (z_MOST_SEATS : PySem.W.nsIn K mainGlobals "MOST_SEATS" = some (some (.int 40 t_MOST_SEATS)))
    {t_MOST_STEPS : Tok} (z_MOST_STEPS : PySem.W.nsIn K mainGlobals "MOST_STEPS" = some (some (.int 1000 t_MOST_STEPS)))
    {f_is_whole : Addr} {od_is_whole an_is_whole : Option Addr} {sl_is_whole : Array (Option Value)} {oc_is_whole kV_is_whole dc_is_whole pm_is_whole cd_is_whole ct_is_whole : Value}
    (a_is_whole : PySem.W.nsIn K mainGlobals "is_whole" = some (some (.ref f_is_whole))) (l_is_whole : K.lookup f_is_whole = some ⟨oc_is_whole, od_is_whole, .func (PySem.W.fnOf "is_whole" "is_whole" (defArgs s_is_whole) (defBody s_is_whole) (defScope s_is_whole) .none kV_is_whole dc_is_whole pm_is_whole an_is_whole cd_is_whole ct_is_whole), sl_is_whole⟩) (c_is_whole : PySem.W.codeIn K cd_is_whole "is_whole" = true) (k_is_whole : PySem.W.keepIn K (.ref f_is_whole) = true)
    {f_is_within : Addr} {od_is_within an_is_within : Option Addr} {sl_is_within : Array (Option Value)} {oc_is_within kV_is_within dc_is_within pm_is_within cd_is_within ct_is_within : Value}
    (a_is_within : PySem.W.nsIn K mainGlobals "is_within" = some (some (.ref f_is_within))) (l_is_within : K.lookup f_is_within = some ⟨oc_is_within, od_is_within, .func (PySem.W.fnOf "is_within" "is_within" (defArgs s_is_within) (defBody s_is_within) (defScope s_is_within) .none kV_is_within dc_is_within pm_is_within an_is_within cd_is_within ct_is_within), sl_is_within⟩) (c_is_within : PySem.W.codeIn K cd_is_within "is_within" = true) (k_is_within : PySem.W.keepIn K (.ref f_is_within) = true)
    {f_check_seats : Addr} {od_check_seats an_check_seats : Option Addr} {sl_check_seats : Array (Option Value)} {oc_check_seats kV_check_seats dc_check_seats pm_check_seats cd_check_seats ct_check_seats : Value}
    (a_check_seats : PySem.W.nsIn K mainGlobals "check_seats" = some (some (.ref f_check_seats))) (l_check_seats : K.lookup f_check_seats = some ⟨oc_check_seats, od_check_seats, .func (PySem.W.fnOf "check_seats" "check_seats" (defArgs s_check_seats) (defBody s_check_seats) (defScope s_check_seats) .none kV_check_seats dc_check_seats pm_check_seats an_check_seats cd_check_seats ct_check_seats), sl_check_seats⟩) (c_check_seats : PySem.W.codeIn K cd_check_seats "check_seats" = true) (k_check_seats : PySem.W.keepIn K (.ref f_check_seats) = true)
    {f_check_ties : Addr} {od_check_ties an_check_ties : Option Addr} {sl_check_ties : Array (Option Value)} {oc_check_ties kV_check_ties dc_check_ties pm_check_ties cd_check_ties ct_check_ties : Value}
    (a_check_ties : PySem.W.nsIn K mainGlobals "check_ties" = some (some (.ref f_check_ties))) (l_check_ties : K.lookup f_check_ties = some ⟨oc_check_ties, od_check_ties, .func (PySem.W.fnOf "check_ties" "check_ties" (defArgs s_check_ties) (defBody s_check_ties) (defScope s_check_ties) .none kV_check_ties dc_check_ties pm_check_ties an_check_ties cd_check_ties ct_check_ties), sl_check_ties⟩) (c_check_ties : PySem.W.codeIn K cd_check_ties "check_ties" = true) (k_check_ties : PySem.W.keepIn K (.ref f_check_ties) = true)
    {cc_check_ties pp_check_ties : Addr} {tc_check_ties : Value} {td_check_ties : Option Addr} {tv_check_ties : Array Value} {ts_check_ties : Array (Option Value)} {dr_check_ties : DefRec} (e_check_ties : cd_check_ties = .ref cc_check_ties) (d_check_ties : K.lookup cc_check_ties = some ⟨tc_check_ties, td_check_ties, .fields tv_check_ties, ts_check_ties⟩) (q_check_ties : (tv_check_ties[11]? : Option Value) = some (.ref pp_check_ties)) (r_check_ties : (recsOf q).find? (fun e => e.name == ("check_ties" : Str)) = some dr_check_ties) (n_check_ties : K.lookup pp_check_ties = none)
    (lg_check_ties : lamT pp_check_ties = none)
    {f_check_net : Addr} {od_check_net an_check_net : Option Addr} {sl_check_net : Array (Option Value)} {oc_check_net kV_check_net dc_check_net pm_check_net cd_check_net ct_check_net : Value}
    (a_check_net : PySem.W.nsIn K mainGlobals "check_net" = some (some (.ref f_check_net))) (l_check_net : K.lookup f_check_net = some ⟨oc_check_net, od_check_net, .func (PySem.W.fnOf "check_net" "check_net" (defArgs s_check_net) (defBody s_check_net) (defScope s_check_net) .none kV_check_net dc_check_net pm_check_net an_check_net cd_check_net ct_check_net), sl_check_net⟩) (c_check_net : PySem.W.codeIn K cd_check_net "check_net" = true) (k_check_net : PySem.W.keepIn K (.ref f_check_net) = true)
    {f_near_in : Addr} {od_near_in an_near_in : Option Addr} {sl_near_in : Array (Option Value)} {oc_near_in kV_near_in dc_near_in pm_near_in cd_near_in ct_near_in : Value}
    (a_near_in : PySem.W.nsIn K mainGlobals "near_in" = some (some (.ref f_near_in))) (l_near_in : K.lookup f_near_in = some ⟨oc_near_in, od_near_in, .func (PySem.W.fnOf "near_in" "near_in" (defArgs s_near_in) (defBody s_near_in) (defScope s_near_in) .none kV_near_in dc_near_in pm_near_in an_near_in cd_near_in ct_near_in), sl_near_in⟩) (c_near_in : PySem.W.codeIn K cd_near_in "near_in" = true) (k_near_in : PySem.W.keepIn K (.ref f_near_in) = true)
    {f_next_round : Addr} {od_next_round an_next_round : Option Addr} {sl_next_round : Array (Option Value)} {oc_next_round kV_next_round dc_next_round pm_next_round cd_next_round ct_next_round : Value}
    (a_next_round : PySem.W.nsIn K mainGlobals "next_round" = some (some (.ref f_next_round))) (l_next_round : K.lookup f_next_round = some ⟨oc_next_round, od_next_round, .func (PySem.W.fnOf "next_round" "next_round" (defArgs s_next_round) (defBody s_next_round) (defScope s_next_round) .none kV_next_round dc_next_round pm_next_round an_next_round cd_next_round ct_next_round), sl_next_round⟩) (c_next_round : PySem.W.codeIn K cd_next_round "next_round" = true) (k_next_round : PySem.W.keepIn K (.ref f_next_round) = true)
    {f_wrong_place : Addr} {od_wrong_place an_wrong_place : Option Addr} {sl_wrong_place : Array (Option Value)} {oc_wrong_place kV_wrong_place dc_wrong_place pm_wrong_place cd_wrong_place ct_wrong_place : Value}
    (a_wrong_place : PySem.W.nsIn K mainGlobals "wrong_place" = some (some (.ref f_wrong_place))) (l_wrong_place : K.lookup f_wrong_place = some ⟨oc_wrong_place, od_wrong_place, .func (PySem.W.fnOf "wrong_place" "wrong_place" (defArgs s_wrong_place) (defBody s_wrong_place) (defScope s_wrong_place) .none kV_wrong_place dc_wrong_place pm_wrong_place an_wrong_place cd_wrong_place ct_wrong_place), sl_wrong_place⟩) (c_wrong_place : PySem.W.codeIn K cd_wrong_place "wrong_place" = true) (k_wrong_place : PySem.W.keepIn K (.ref f_wrong_place) = true)
    {f_check_order : Addr} {od_check_order an_check_order : Option Addr} {sl_check_order : Array (Option Value)} {oc_check_order kV_check_order dc_check_order pm_check_order cd_check_order ct_check_order : Value}
    (a_check_order : PySem.W.nsIn K mainGlobals "check_order" = some (some (.ref f_check_order))) (l_check_order : K.lookup f_check_order = some ⟨oc_check_order, od_check_order, .func (PySem.W.fnOf "check_order" "check_order" (defArgs s_check_order) (defBody s_check_order) (defScope s_check_order) .none kV_check_order dc_check_order pm_check_order an_check_order cd_check_order ct_check_order), sl_check_order⟩) (c_check_order : PySem.W.codeIn K cd_check_order "check_order" = true) (k_check_order : PySem.W.keepIn K (.ref f_check_order) = true)
    {f_check_order_of : Addr} {od_check_order_of an_check_order_of : Option Addr} {sl_check_order_of : Array (Option Value)} {oc_check_order_of kV_check_order_of dc_check_order_of pm_check_order_of cd_check_order_of ct_check_order_of : Value}
    (a_check_order_of : PySem.W.nsIn K mainGlobals "check_order_of" = some (some (.ref f_check_order_of))) (l_check_order_of : K.lookup f_check_order_of = some ⟨oc_check_order_of, od_check_order_of, .func (PySem.W.fnOf "check_order_of" "check_order_of" (defArgs s_check_order_of) (defBody s_check_order_of) (defScope s_check_order_of) .none kV_check_order_of dc_check_order_of pm_check_order_of an_check_order_of cd_check_order_of ct_check_order_of), sl_check_order_of⟩) (c_check_order_of : PySem.W.codeIn K cd_check_order_of "check_order_of" = true) (k_check_order_of : PySem.W.keepIn K (.ref f_check_order_of) = true)
    {f_check_orders : Addr} {od_check_orders an_check_orders : Option Addr} {sl_check_orders : Array (Option Value)} {oc_check_orders kV_check_orders dc_check_orders pm_check_orders cd_check_orders ct_check_orders : Value}
    (a_check_orders : PySem.W.nsIn K mainGlobals "check_orders" = some (some (.ref f_check_orders))) (l_check_orders : K.lookup f_check_orders = some ⟨oc_check_orders, od_check_orders, .func (PySem.W.fnOf "check_orders" "check_orders" (defArgs s_check_orders) (defBody s_check_orders) (defScope s_check_orders) .none kV_check_orders dc_check_orders pm_check_orders an_check_orders cd_check_orders ct_check_orders), sl_check_orders⟩) (c_check_orders : PySem.W.codeIn K cd_check_orders "check_orders" = true) (k_check_orders : PySem.W.keepIn K (.ref f_check_orders) = true)
    {f_breaks_in : Addr} {od_breaks_in an_breaks_in : Option Addr} {sl_breaks_in : Array (Option Value)} {oc_breaks_in kV_breaks_in dc_breaks_in pm_breaks_in cd_breaks_in ct_breaks_in : Value}
    (a_breaks_in : PySem.W.nsIn K mainGlobals "breaks_in" = some (some (.ref f_breaks_in))) (l_breaks_in : K.lookup f_breaks_in = some ⟨oc_breaks_in, od_breaks_in, .func (PySem.W.fnOf "breaks_in" "breaks_in" (defArgs s_breaks_in) (defBody s_breaks_in) (defScope s_breaks_in) .none kV_breaks_in dc_breaks_in pm_breaks_in an_breaks_in cd_breaks_in ct_breaks_in), sl_breaks_in⟩) (c_breaks_in : PySem.W.codeIn K cd_breaks_in "breaks_in" = true) (k_breaks_in : PySem.W.keepIn K (.ref f_breaks_in) = true)
    {f_check_standing : Addr} {od_check_standing an_check_standing : Option Addr} {sl_check_standing : Array (Option Value)} {oc_check_standing kV_check_standing dc_check_standing pm_check_standing cd_check_standing ct_check_standing : Value}
    (a_check_standing : PySem.W.nsIn K mainGlobals "check_standing" = some (some (.ref f_check_standing))) (l_check_standing : K.lookup f_check_standing = some ⟨oc_check_standing, od_check_standing, .func (PySem.W.fnOf "check_standing" "check_standing" (defArgs s_check_standing) (defBody s_check_standing) (defScope s_check_standing) .none kV_check_standing dc_check_standing pm_check_standing an_check_standing cd_check_standing ct_check_standing), sl_check_standing⟩) (c_check_standing : PySem.W.codeIn K cd_check_standing "check_standing" = true) (k_check_standing : PySem.W.keepIn K (.ref f_check_standing) = true)
    {f_check_calls : Addr} {od_check_calls an_check_calls : Option Addr} {sl_check_calls : Array (Option Value)} {oc_check_calls kV_check_calls dc_check_calls pm_check_calls cd_check_calls ct_check_calls : Value}
    (a_check_calls : PySem.W.nsIn K mainGlobals "check_calls" = some (some (.ref f_check_calls))) (l_check_calls : K.lookup f_check_calls = some ⟨oc_check_calls, od_check_calls, .func (PySem.W.fnOf "check_calls" "check_calls" (defArgs s_check_calls) (defBody s_check_calls) (defScope s_check_calls) .none kV_check_calls dc_check_calls pm_check_calls an_check_calls cd_check_calls ct_check_calls), sl_check_calls⟩) (c_check_calls : PySem.W.codeIn K cd_check_calls "check_calls" = true) (k_check_calls : PySem.W.keepIn K (.ref f_check_calls) = true)
    {f_called_in : Addr} {od_called_in an_called_in : Option Addr} {sl_called_in : Array (Option Value)} {oc_called_in kV_called_in dc_called_in pm_called_in cd_called_in ct_called_in : Value}
    (a_called_in : PySem.W.nsIn K mainGlobals "called_in" = some (some (.ref f_called_in))) (l_called_in : K.lookup f_called_in = some ⟨oc_called_in, od_called_in, .func (PySem.W.fnOf "called_in" "called_in" (defArgs s_called_in) (defBody s_called_in) (defScope s_called_in) .none kV_called_in dc_called_in pm_called_in an_called_in cd_called_in ct_called_in), sl_called_in⟩) (c_called_in : PySem.W.codeIn K cd_called_in "called_in" = true) (k_called_in : PySem.W.keepIn K (.ref f_called_in) = true)
    {f_back_in : Addr} {od_back_in an_back_in : Option Addr} {sl_back_in : Array (Option Value)} {oc_back_in kV_back_in dc_back_in pm_back_in cd_back_in ct_back_in : Value}
    (a_back_in : PySem.W.nsIn K mainGlobals "back_in" = some (some (.ref f_back_in))) (l_back_in : K.lookup f_back_in = some ⟨oc_back_in, od_back_in, .func (PySem.W.fnOf "back_in" "back_in" (defArgs s_back_in) (defBody s_back_in) (defScope s_back_in) .none kV_back_in dc_back_in pm_back_in an_back_in cd_back_in ct_back_in), sl_back_in⟩) (c_back_in : PySem.W.codeIn K cd_back_in "back_in" = true) (k_back_in : PySem.W.keepIn K (.ref f_back_in) = true)
    {f_called : Addr} {od_called an_called : Option Addr} {sl_called : Array (Option Value)} {oc_called kV_called dc_called pm_called cd_called ct_called : Value}
    (a_called : PySem.W.nsIn K mainGlobals "called" = some (some (.ref f_called))) (l_called : K.lookup f_called = some ⟨oc_called, od_called, .func (PySem.W.fnOf "called" "called" (defArgs s_called) (defBody s_called) (defScope s_called) .none kV_called dc_called pm_called an_called cd_called ct_called), sl_called⟩) (c_called : PySem.W.codeIn K cd_called "called" = true) (k_called : PySem.W.keepIn K (.ref f_called) = true)
    {f_after_rounds : Addr} {od_after_rounds an_after_rounds : Option Addr} {sl_after_rounds : Array (Option Value)} {oc_after_rounds kV_after_rounds dc_after_rounds pm_after_rounds cd_after_rounds ct_after_rounds : Value}
    {dT_after_rounds : Addr} {gc_after_rounds : Value} {gd_after_rounds : Option Addr} {gt_after_rounds : Tok} {gn_after_rounds : Nat} {gs_after_rounds : Array (Option Value)}
    (a_after_rounds : PySem.W.nsIn K mainGlobals "after_rounds" = some (some (.ref f_after_rounds))) (l_after_rounds : K.lookup f_after_rounds = some ⟨oc_after_rounds, od_after_rounds, .func (PySem.W.fnOf "after_rounds" "after_rounds" (defArgs s_after_rounds) (defBody s_after_rounds) (defScope s_after_rounds) (.ref dT_after_rounds) kV_after_rounds dc_after_rounds pm_after_rounds an_after_rounds cd_after_rounds ct_after_rounds), sl_after_rounds⟩) (c_after_rounds : PySem.W.codeIn K cd_after_rounds "after_rounds" = true) (k_after_rounds : PySem.W.keepIn K (.ref f_after_rounds) = true)
    (g_after_rounds : K.lookup dT_after_rounds = some ⟨gc_after_rounds, gd_after_rounds, .seq #[.int 1 gt_after_rounds] gn_after_rounds, gs_after_rounds⟩)
    {f_goals_in : Addr} {od_goals_in an_goals_in : Option Addr} {sl_goals_in : Array (Option Value)} {oc_goals_in kV_goals_in dc_goals_in pm_goals_in cd_goals_in ct_goals_in : Value}
    (a_goals_in : PySem.W.nsIn K mainGlobals "goals_in" = some (some (.ref f_goals_in))) (l_goals_in : K.lookup f_goals_in = some ⟨oc_goals_in, od_goals_in, .func (PySem.W.fnOf "goals_in" "goals_in" (defArgs s_goals_in) (defBody s_goals_in) (defScope s_goals_in) .none kV_goals_in dc_goals_in pm_goals_in an_goals_in cd_goals_in ct_goals_in), sl_goals_in⟩) (c_goals_in : PySem.W.codeIn K cd_goals_in "goals_in" = true) (k_goals_in : PySem.W.keepIn K (.ref f_goals_in) = true)
    {cc_goals_in pp_goals_in : Addr} {tc_goals_in : Value} {td_goals_in : Option Addr} {tv_goals_in : Array Value} {ts_goals_in : Array (Option Value)} {dr_goals_in : DefRec} (e_goals_in : cd_goals_in = .ref cc_goals_in) (d_goals_in : K.lookup cc_goals_in = some ⟨tc_goals_in, td_goals_in, .fields tv_goals_in, ts_goals_in⟩) (q_goals_in : (tv_goals_in[11]? : Option Value) = some (.ref pp_goals_in)) (r_goals_in : (recsOf q).find? (fun e => e.name == ("goals_in" : Str)) = some dr_goals_in) (n_goals_in : K.lookup pp_goals_in = none)
    (lg_goals_in : lamT pp_goals_in = none)
    {f_fewest_turns : Addr} {od_fewest_turns an_fewest_turns : Option Addr} {sl_fewest_turns : Array (Option Value)} {oc_fewest_turns kV_fewest_turns dc_fewest_turns pm_fewest_turns cd_fewest_turns ct_fewest_turns : Value}
    (a_fewest_turns : PySem.W.nsIn K mainGlobals "fewest_turns" = some (some (.ref f_fewest_turns))) (l_fewest_turns : K.lookup f_fewest_turns = some ⟨oc_fewest_turns, od_fewest_turns, .func (PySem.W.fnOf "fewest_turns" "fewest_turns" (defArgs s_fewest_turns) (defBody s_fewest_turns) (defScope s_fewest_turns) .none kV_fewest_turns dc_fewest_turns pm_fewest_turns an_fewest_turns cd_fewest_turns ct_fewest_turns), sl_fewest_turns⟩) (c_fewest_turns : PySem.W.codeIn K cd_fewest_turns "fewest_turns" = true) (k_fewest_turns : PySem.W.keepIn K (.ref f_fewest_turns) = true)
    {f_turns : Addr} {od_turns an_turns : Option Addr} {sl_turns : Array (Option Value)} {oc_turns kV_turns dc_turns pm_turns cd_turns ct_turns : Value}
    (a_turns : PySem.W.nsIn K mainGlobals "turns" = some (some (.ref f_turns))) (l_turns : K.lookup f_turns = some ⟨oc_turns, od_turns, .func (PySem.W.fnOf "turns" "turns" (defArgs s_turns) (defBody s_turns) (defScope s_turns) .none kV_turns dc_turns pm_turns an_turns cd_turns ct_turns), sl_turns⟩) (c_turns : PySem.W.codeIn K cd_turns "turns" = true) (k_turns : PySem.W.keepIn K (.ref f_turns) = true)
    {f_Ldraws : Addr} {od_Ldraws an_Ldraws : Option Addr} {sl_Ldraws : Array (Option Value)} {oc_Ldraws kV_Ldraws dc_Ldraws pm_Ldraws cd_Ldraws ct_Ldraws : Value}
    (a_Ldraws : PySem.W.nsIn K mainGlobals "_law_draws" = some (some (.ref f_Ldraws))) (l_Ldraws : K.lookup f_Ldraws = some ⟨oc_Ldraws, od_Ldraws, .func (PySem.W.fnOf "_law_draws" "_law_draws" (defArgs s_Ldraws) (defBody s_Ldraws) (defScope s_Ldraws) .none kV_Ldraws dc_Ldraws pm_Ldraws an_Ldraws cd_Ldraws ct_Ldraws), sl_Ldraws⟩) (c_Ldraws : PySem.W.codeIn K cd_Ldraws "_law_draws" = true) (k_Ldraws : PySem.W.keepIn K (.ref f_Ldraws) = true)
    {f_Lnext : Addr} {od_Lnext an_Lnext : Option Addr} {sl_Lnext : Array (Option Value)} {oc_Lnext kV_Lnext dc_Lnext pm_Lnext cd_Lnext ct_Lnext : Value}
    (a_Lnext : PySem.W.nsIn K mainGlobals "_law_next" = some (some (.ref f_Lnext))) (l_Lnext : K.lookup f_Lnext = some ⟨oc_Lnext, od_Lnext, .func (PySem.W.fnOf "_law_next" "_law_next" (defArgs s_Lnext) (defBody s_Lnext) (defScope s_Lnext) .none kV_Lnext dc_Lnext pm_Lnext an_Lnext cd_Lnext ct_Lnext), sl_Lnext⟩) (c_Lnext : PySem.W.codeIn K cd_Lnext "_law_next" = true) (k_Lnext : PySem.W.keepIn K (.ref f_Lnext) = true)
    {f_Lmixed : Addr} {od_Lmixed an_Lmixed : Option Addr} {sl_Lmixed : Array (Option Value)} {oc_Lmixed kV_Lmixed dc_Lmixed pm_Lmixed cd_Lmixed ct_Lmixed : Value}
    (a_Lmixed : PySem.W.nsIn K mainGlobals "_law_mixed" = some (some (.ref f_Lmixed))) (l_Lmixed : K.lookup f_Lmixed = some ⟨oc_Lmixed, od_Lmixed, .func (PySem.W.fnOf "_law_mixed" "_law_mixed" (defArgs s_Lmixed) (defBody s_Lmixed) (defScope s_Lmixed) .none kV_Lmixed dc_Lmixed pm_Lmixed an_Lmixed cd_Lmixed ct_Lmixed), sl_Lmixed⟩) (c_Lmixed : PySem.W.codeIn K cd_Lmixed "_law_mixed" = true) (k_Lmixed : PySem.W.keepIn K (.ref f_Lmixed) = true)
    {f_Lnet : Addr} {od_Lnet an_Lnet : Option Addr} {sl_Lnet : Array (Option Value)} {oc_Lnet kV_Lnet dc_Lnet pm_Lnet cd_Lnet ct_Lnet : Value}
    (a_Lnet : PySem.W.nsIn K mainGlobals "_law_net" = some (some (.ref f_Lnet))) (l_Lnet : K.lookup f_Lnet = some ⟨oc_Lnet, od_Lnet, .func (PySem.W.fnOf "_law_net" "_law_net" (defArgs s_Lnet) (defBody s_Lnet) (defScope s_Lnet) .none kV_Lnet dc_Lnet pm_Lnet an_Lnet cd_Lnet ct_Lnet), sl_Lnet⟩) (c_Lnet : PySem.W.codeIn K cd_Lnet "_law_net" = true) (k_Lnet : PySem.W.keepIn K (.ref f_Lnet) = true)
    {f_Lnear : Addr} {od_Lnear an_Lnear : Option Addr} {sl_Lnear : Array (Option Value)} {oc_Lnear kV_Lnear dc_Lnear pm_Lnear cd_Lnear ct_Lnear : Value}
    (a_Lnear : PySem.W.nsIn K mainGlobals "_law_near" = some (some (.ref f_Lnear))) (l_Lnear : K.lookup f_Lnear = some ⟨oc_Lnear, od_Lnear, .func (PySem.W.fnOf "_law_near" "_law_near" (defArgs s_Lnear) (defBody s_Lnear) (defScope s_Lnear) .none kV_Lnear dc_Lnear pm_Lnear an_Lnear cd_Lnear ct_Lnear), sl_Lnear⟩) (c_Lnear : PySem.W.codeIn K cd_Lnear "_law_near" = true) (k_Lnear : PySem.W.keepIn K (.ref f_Lnear) = true)
    {f_Lwhere : Addr} {od_Lwhere an_Lwhere : Option Addr} {sl_Lwhere : Array (Option Value)} {oc_Lwhere kV_Lwhere dc_Lwhere pm_Lwhere cd_Lwhere ct_Lwhere : Value}
    (a_Lwhere : PySem.W.nsIn K mainGlobals "_law_where" = some (some (.ref f_Lwhere))) (l_Lwhere : K.lookup f_Lwhere = some ⟨oc_Lwhere, od_Lwhere, .func (PySem.W.fnOf "_law_where" "_law_where" (defArgs s_Lwhere) (defBody s_Lwhere) (defScope s_Lwhere) .none kV_Lwhere dc_Lwhere pm_Lwhere an_Lwhere cd_Lwhere ct_Lwhere), sl_Lwhere⟩) (c_Lwhere : PySem.W.codeIn K cd_Lwhere "_law_where" = true) (k_Lwhere : PySem.W.keepIn K (.ref f_Lwhere) = true)
    {f_Lsitting : Addr} {od_Lsitting an_Lsitting : Option Addr} {sl_Lsitting : Array (Option Value)} {oc_Lsitting kV_Lsitting dc_Lsitting pm_Lsitting cd_Lsitting ct_Lsitting : Value}
    (a_Lsitting : PySem.W.nsIn K mainGlobals "_law_sitting" = some (some (.ref f_Lsitting))) (l_Lsitting : K.lookup f_Lsitting = some ⟨oc_Lsitting, od_Lsitting, .func (PySem.W.fnOf "_law_sitting" "_law_sitting" (defArgs s_Lsitting) (defBody s_Lsitting) (defScope s_Lsitting) .none kV_Lsitting dc_Lsitting pm_Lsitting an_Lsitting cd_Lsitting ct_Lsitting), sl_Lsitting⟩) (c_Lsitting : PySem.W.codeIn K cd_Lsitting "_law_sitting" = true) (k_Lsitting : PySem.W.keepIn K (.ref f_Lsitting) = true)
    {f_Lcalled : Addr} {od_Lcalled an_Lcalled : Option Addr} {sl_Lcalled : Array (Option Value)} {oc_Lcalled kV_Lcalled dc_Lcalled pm_Lcalled cd_Lcalled ct_Lcalled : Value}
    (a_Lcalled : PySem.W.nsIn K mainGlobals "_law_called" = some (some (.ref f_Lcalled))) (l_Lcalled : K.lookup f_Lcalled = some ⟨oc_Lcalled, od_Lcalled, .func (PySem.W.fnOf "_law_called" "_law_called" (defArgs s_Lcalled) (defBody s_Lcalled) (defScope s_Lcalled) .none kV_Lcalled dc_Lcalled pm_Lcalled an_Lcalled cd_Lcalled ct_Lcalled), sl_Lcalled⟩) (c_Lcalled : PySem.W.codeIn K cd_Lcalled "_law_called" = true) (k_Lcalled : PySem.W.keepIn K (.ref f_Lcalled) = true)
    {f_Lbreaks : Addr} {od_Lbreaks an_Lbreaks : Option Addr} {sl_Lbreaks : Array (Option Value)} {oc_Lbreaks kV_Lbreaks dc_Lbreaks pm_Lbreaks cd_Lbreaks ct_Lbreaks : Value}
    (a_Lbreaks : PySem.W.nsIn K mainGlobals "_law_breaks" = some (some (.ref f_Lbreaks))) (l_Lbreaks : K.lookup f_Lbreaks = some ⟨oc_Lbreaks, od_Lbreaks, .func (PySem.W.fnOf "_law_breaks" "_law_breaks" (defArgs s_Lbreaks) (defBody s_Lbreaks) (defScope s_Lbreaks) .none kV_Lbreaks dc_Lbreaks pm_Lbreaks an_Lbreaks cd_Lbreaks ct_Lbreaks), sl_Lbreaks⟩) (c_Lbreaks : PySem.W.codeIn K cd_Lbreaks "_law_breaks" = true) (k_Lbreaks : PySem.W.keepIn K (.ref f_Lbreaks) = true)
    {f_Lturned : Addr} {od_Lturned an_Lturned : Option Addr} {sl_Lturned : Array (Option Value)} {oc_Lturned kV_Lturned dc_Lturned pm_Lturned cd_Lturned ct_Lturned : Value}
    (a_Lturned : PySem.W.nsIn K mainGlobals "_law_turned" = some (some (.ref f_Lturned))) (l_Lturned : K.lookup f_Lturned = some ⟨oc_Lturned, od_Lturned, .func (PySem.W.fnOf "_law_turned" "_law_turned" (defArgs s_Lturned) (defBody s_Lturned) (defScope s_Lturned) .none kV_Lturned dc_Lturned pm_Lturned an_Lturned cd_Lturned ct_Lturned), sl_Lturned⟩) (c_Lturned : PySem.W.codeIn K cd_Lturned "_law_turned" = true) (k_Lturned : PySem.W.keepIn K (.ref f_Lturned) = true)
    {f_Lsteps : Addr} {od_Lsteps an_Lsteps : Option Addr} {sl_Lsteps : Array (Option Value)} {oc_Lsteps kV_Lsteps dc_Lsteps pm_Lsteps cd_Lsteps ct_Lsteps : Value}
    (a_Lsteps : PySem.W.nsIn K mainGlobals "_law_steps" = some (some (.ref f_Lsteps))) (l_Lsteps : K.lookup f_Lsteps = some ⟨oc_Lsteps, od_Lsteps, .func (PySem.W.fnOf "_law_steps" "_law_steps" (defArgs s_Lsteps) (defBody s_Lsteps) (defScope s_Lsteps) .none kV_Lsteps dc_Lsteps pm_Lsteps an_Lsteps cd_Lsteps ct_Lsteps), sl_Lsteps⟩) (c_Lsteps : PySem.W.codeIn K cd_Lsteps "_law_steps" = true) (k_Lsteps : PySem.W.keepIn K (.ref f_Lsteps) = true)
    {f_Lleast : Addr} {od_Lleast an_Lleast : Option Addr} {sl_Lleast : Array (Option Value)} {oc_Lleast kV_Lleast dc_Lleast pm_Lleast cd_Lleast ct_Lleast : Value}
    (a_Lleast : PySem.W.nsIn K mainGlobals "_law_least" = some (some (.ref f_Lleast))) (l_Lleast : K.lookup f_Lleast = some ⟨oc_Lleast, od_Lleast, .func (PySem.W.fnOf "_law_least" "_law_least" (defArgs s_Lleast) (defBody s_Lleast) (defScope s_Lleast) .none kV_Lleast dc_Lleast pm_Lleast an_Lleast cd_Lleast ct_Lleast), sl_Lleast⟩) (c_Lleast : PySem.W.codeIn K cd_Lleast "_law_least" = true) (k_Lleast : PySem.W.keepIn K (.ref f_Lleast) = true)
    {f_Lright : Addr} {od_Lright an_Lright : Option Addr} {sl_Lright : Array (Option Value)} {oc_Lright kV_Lright dc_Lright pm_Lright cd_Lright ct_Lright : Value}
    (a_Lright : PySem.W.nsIn K mainGlobals "_law_right" = some (some (.ref f_Lright))) (l_Lright : K.lookup f_Lright = some ⟨oc_Lright, od_Lright, .func (PySem.W.fnOf "_law_right" "_law_right" (defArgs s_Lright) (defBody s_Lright) (defScope s_Lright) .none kV_Lright dc_Lright pm_Lright an_Lright cd_Lright ct_Lright), sl_Lright⟩) (c_Lright : PySem.W.codeIn K cd_Lright "_law_right" = true) (k_Lright : PySem.W.keepIn K (.ref f_Lright) = true)
    {f_Lleads_right : Addr} {od_Lleads_right an_Lleads_right : Option Addr} {sl_Lleads_right : Array (Option Value)} {oc_Lleads_right kV_Lleads_right dc_Lleads_right pm_Lleads_right cd_Lleads_right ct_Lleads_right : Value}
    (a_Lleads_right : PySem.W.nsIn K mainGlobals "_law_leads_right" = some (some (.ref f_Lleads_right))) (l_Lleads_right : K.lookup f_Lleads_right = some ⟨oc_Lleads_right, od_Lleads_right, .func (PySem.W.fnOf "_law_leads_right" "_law_leads_right" (defArgs s_Lleads_right) (defBody s_Lleads_right) (defScope s_Lleads_right) .none kV_Lleads_right dc_Lleads_right pm_Lleads_right an_Lleads_right cd_Lleads_right ct_Lleads_right), sl_Lleads_right⟩) (c_Lleads_right : PySem.W.codeIn K cd_Lleads_right "_law_leads_right" = true) (k_Lleads_right : PySem.W.keepIn K (.ref f_Lleads_right) = true)
    {f_Lothers : Addr} {od_Lothers an_Lothers : Option Addr} {sl_Lothers : Array (Option Value)} {oc_Lothers kV_Lothers dc_Lothers pm_Lothers cd_Lothers ct_Lothers : Value}
    (a_Lothers : PySem.W.nsIn K mainGlobals "_law_others" = some (some (.ref f_Lothers))) (l_Lothers : K.lookup f_Lothers = some ⟨oc_Lothers, od_Lothers, .func (PySem.W.fnOf "_law_others" "_law_others" (defArgs s_Lothers) (defBody s_Lothers) (defScope s_Lothers) .none kV_Lothers dc_Lothers pm_Lothers an_Lothers cd_Lothers ct_Lothers), sl_Lothers⟩) (c_Lothers : PySem.W.codeIn K cd_Lothers "_law_others" = true) (k_Lothers : PySem.W.keepIn K (.ref f_Lothers) = true)
    {f_law : Addr} {od_law an_law : Option Addr} {sl_law : Array (Option Value)} {oc_law kV_law dc_law pm_law cd_law ct_law : Value}
    (a_law : PySem.W.nsIn K mainGlobals "law" = some (some (.ref f_law))) (l_law : K.lookup f_law = some ⟨oc_law, od_law, .func (PySem.W.fnOf "law" "law" (defArgs s_law) (defBody s_law) (defScope s_law) .none kV_law dc_law pm_law an_law cd_law ct_law), sl_law⟩) (c_law : PySem.W.codeIn K cd_law "law" = true) (k_law : PySem.W.keepIn K (.ref f_law) = true)
    : LawIs l w K CX0 9 "_law_script" mg fa h := by
  have e := hfa.symm.trans (PySem.W.mg_of X T0.g a_law)
  cases e
  have F_is_whole := fun_mk (st := s_is_whole) l_is_whole c_is_whole k_is_whole
  have b_is_whole := F_is_whole.binds (ps := ["thing"]) fun _ _ _ _ _ _ us hl => match us, hl with | [_], _ => rfl
  have F_is_within := fun_mk (st := s_is_within) l_is_within c_is_within k_is_within
  have b_is_within := F_is_within.binds (ps := ["thing", "most"]) fun _ _ _ _ _ _ us hl => match us, hl with | [_, _], _ => rfl
  have F_check_seats := fun_mk (st := s_check_seats) l_check_seats c_check_seats k_check_seats
  have b_check_seats := F_check_seats.binds (ps := ["seats"]) fun _ _ _ _ _ _ us hl => match us, hl with | [_], _ => rfl
  have t_check_ties := tab_mk a_check_ties l_check_ties e_check_ties d_check_ties q_check_ties
  have F_check_ties := fun_mk (st := s_check_ties) l_check_ties c_check_ties k_check_ties
  have b_check_ties := F_check_ties.binds (ps := ["seats", "ties"]) fun _ _ _ _ _ _ us hl => match us, hl with | [_, _], _ => rfl
  have F_check_net := fun_mk (st := s_check_net) l_check_net c_check_net k_check_net
  have b_check_net := F_check_net.binds (ps := ["seats", "ties"]) fun _ _ _ _ _ _ us hl => match us, hl with | [_, _], _ => rfl
  have F_near_in := fun_mk (st := s_near_in) l_near_in c_near_in k_near_in
  have b_near_in := F_near_in.binds (ps := ["seats", "ties"]) fun _ _ _ _ _ _ us hl => match us, hl with | [_, _], _ => rfl
  have F_next_round := fun_mk (st := s_next_round) l_next_round c_next_round k_next_round
  have b_next_round := F_next_round.binds (ps := ["number", "count"]) fun _ _ _ _ _ _ us hl => match us, hl with | [_, _], _ => rfl
  have F_wrong_place := fun_mk (st := s_wrong_place) l_wrong_place c_wrong_place k_wrong_place
  have b_wrong_place := F_wrong_place.binds (ps := ["things", "count"]) fun _ _ _ _ _ _ us hl => match us, hl with | [_, _], _ => rfl
  have F_check_order := fun_mk (st := s_check_order) l_check_order c_check_order k_check_order
  have b_check_order := F_check_order.binds (ps := ["order"]) fun _ _ _ _ _ _ us hl => match us, hl with | [_], _ => rfl
  have F_check_order_of := fun_mk (st := s_check_order_of) l_check_order_of c_check_order_of k_check_order_of
  have b_check_order_of := F_check_order_of.binds (ps := ["order", "count"]) fun _ _ _ _ _ _ us hl => match us, hl with | [_, _], _ => rfl
  have F_check_orders := fun_mk (st := s_check_orders) l_check_orders c_check_orders k_check_orders
  have b_check_orders := F_check_orders.binds (ps := ["order", "other"]) fun _ _ _ _ _ _ us hl => match us, hl with | [_, _], _ => rfl
  have F_breaks_in := fun_mk (st := s_breaks_in) l_breaks_in c_breaks_in k_breaks_in
  have b_breaks_in := F_breaks_in.binds (ps := ["order"]) fun _ _ _ _ _ _ us hl => match us, hl with | [_], _ => rfl
  have F_check_standing := fun_mk (st := s_check_standing) l_check_standing c_check_standing k_check_standing
  have b_check_standing := F_check_standing.binds (ps := ["seats", "standing"]) fun _ _ _ _ _ _ us hl => match us, hl with | [_, _], _ => rfl
  have F_check_calls := fun_mk (st := s_check_calls) l_check_calls c_check_calls k_check_calls
  have b_check_calls := F_check_calls.binds (ps := ["seats", "calls"]) fun _ _ _ _ _ _ us hl => match us, hl with | [_, _], _ => rfl
  have F_called_in := fun_mk (st := s_called_in) l_called_in c_called_in k_called_in
  have b_called_in := F_called_in.binds (ps := ["near", "standing", "calls"]) fun _ _ _ _ _ _ us hl => match us, hl with | [_, _, _], _ => rfl
  have F_back_in := fun_mk (st := s_back_in) l_back_in c_back_in k_back_in
  have b_back_in := F_back_in.binds (ps := ["near", "standing", "order"]) fun _ _ _ _ _ _ us hl => match us, hl with | [_, _, _], _ => rfl
  have F_called := fun_mk (st := s_called) l_called c_called k_called
  have b_called := F_called.binds (ps := ["seats", "ties", "standing", "calls"]) fun _ _ _ _ _ _ us hl => match us, hl with | [_, _, _, _], _ => rfl
  have F_after_rounds : FunD K "after_rounds" "after_rounds" (defArgs s_after_rounds) (defBody s_after_rounds) (defScope s_after_rounds) [.int 1] [] f_after_rounds _ := ⟨⟨_, _, _, _, _, _, _, _, _, _, rfl, l_after_rounds, c_after_rounds, .inr ⟨by simp, dT_after_rounds, _, _, _, rfl, g_after_rounds, rfl, .cons ⟨_, rfl⟩ .nil⟩, .inl rfl⟩, k_after_rounds⟩
  obtain ⟨ds_after_rounds, r_after_rounds, bd_after_rounds⟩ := F_after_rounds.binds1 (ps := ["seats", "ties", "standing", "order", "many"]) 4 0 (by simp) rfl fun _ _ _ _ _ _ _ us its h1 h2 => match us, h1, its, h2 with | [_, _, _, _], _, [_], _ => ⟨_, rfl, rfl⟩
  obtain ⟨es_after_rounds, q_after_rounds, b_after_rounds⟩ := F_after_rounds.binds1 (ps := ["seats", "ties", "standing", "order", "many"]) 5 1 (by simp) rfl fun _ _ _ _ _ _ _ us its h1 h2 => match us, h1, its, h2 with | [_, _, _, _, _], _, [_], _ => ⟨_, rfl, rfl⟩
  cases q_after_rounds
  have t_goals_in := tab_mk a_goals_in l_goals_in e_goals_in d_goals_in q_goals_in
  have F_goals_in := fun_mk (st := s_goals_in) l_goals_in c_goals_in k_goals_in
  have b_goals_in := F_goals_in.binds (ps := ["order", "other"]) fun _ _ _ _ _ _ us hl => match us, hl with | [_, _], _ => rfl
  have F_fewest_turns := fun_mk (st := s_fewest_turns) l_fewest_turns c_fewest_turns k_fewest_turns
  have b_fewest_turns := F_fewest_turns.binds (ps := ["order", "other"]) fun _ _ _ _ _ _ us hl => match us, hl with | [_, _], _ => rfl
  have F_turns := fun_mk (st := s_turns) l_turns c_turns k_turns
  have b_turns := F_turns.binds (ps := ["order", "other"]) fun _ _ _ _ _ _ us hl => match us, hl with | [_, _], _ => rfl
  have F_Ldraws := fun_mk (st := s_Ldraws) l_Ldraws c_Ldraws k_Ldraws
  have b_Ldraws := F_Ldraws.binds (ps := ["_law_cell"]) fun _ _ _ _ _ _ us hl => match us, hl with | [_], _ => rfl
  have F_Lnext := fun_mk (st := s_Lnext) l_Lnext c_Lnext k_Lnext
  have b_Lnext := F_Lnext.binds (ps := ["_law_draws_here"]) fun _ _ _ _ _ _ us hl => match us, hl with | [_], _ => rfl
  have F_Lmixed := fun_mk (st := s_Lmixed) l_Lmixed c_Lmixed k_Lmixed
  have b_Lmixed := F_Lmixed.binds (ps := ["_law_draws_here", "_law_some"]) fun _ _ _ _ _ _ us hl => match us, hl with | [_, _], _ => rfl
  have F_Lnet := fun_mk (st := s_Lnet) l_Lnet c_Lnet k_Lnet
  have b_Lnet := F_Lnet.binds (ps := ["_law_draws_here", "_law_most"]) fun _ _ _ _ _ _ us hl => match us, hl with | [_, _], _ => rfl
  have F_Lnear := fun_mk (st := s_Lnear) l_Lnear c_Lnear k_Lnear
  have b_Lnear := F_Lnear.binds (ps := ["_law_ties"]) fun _ _ _ _ _ _ us hl => match us, hl with | [_], _ => rfl
  have F_Lwhere := fun_mk (st := s_Lwhere) l_Lwhere c_Lwhere k_Lwhere
  have b_Lwhere := F_Lwhere.binds (ps := ["_law_standing"]) fun _ _ _ _ _ _ us hl => match us, hl with | [_], _ => rfl
  have F_Lsitting := fun_mk (st := s_Lsitting) l_Lsitting c_Lsitting k_Lsitting
  have b_Lsitting := F_Lsitting.binds (ps := ["_law_where_here"]) fun _ _ _ _ _ _ us hl => match us, hl with | [_], _ => rfl
  have F_Lcalled := fun_mk (st := s_Lcalled) l_Lcalled c_Lcalled k_Lcalled
  have b_Lcalled := F_Lcalled.binds (ps := ["_law_near_here", "_law_where_here", "_law_calls"]) fun _ _ _ _ _ _ us hl => match us, hl with | [_, _, _], _ => rfl
  have F_Lbreaks := fun_mk (st := s_Lbreaks) l_Lbreaks c_Lbreaks k_Lbreaks
  have b_Lbreaks := F_Lbreaks.binds (ps := ["_law_order"]) fun _ _ _ _ _ _ us hl => match us, hl with | [_], _ => rfl
  have F_Lturned := fun_mk (st := s_Lturned) l_Lturned c_Lturned k_Lturned
  have b_Lturned := F_Lturned.binds (ps := ["_law_some", "_law_call", "_law_many"]) fun _ _ _ _ _ _ us hl => match us, hl with | [_, _, _], _ => rfl
  have F_Lsteps := fun_mk (st := s_Lsteps) l_Lsteps c_Lsteps k_Lsteps
  have b_Lsteps := F_Lsteps.binds (ps := ["_law_first", "_law_last", "_law_many"]) fun _ _ _ _ _ _ us hl => match us, hl with | [_, _, _], _ => rfl
  have F_Lleast := fun_mk (st := s_Lleast) l_Lleast c_Lleast k_Lleast
  have b_Lleast := F_Lleast.binds (ps := ["_law_first", "_law_last", "_law_many"]) fun _ _ _ _ _ _ us hl => match us, hl with | [_, _, _], _ => rfl
  have F_Lright := fun_mk (st := s_Lright) l_Lright c_Lright k_Lright
  have b_Lright := F_Lright.binds (ps := ["_law_order", "_law_other"]) fun _ _ _ _ _ _ us hl => match us, hl with | [_, _], _ => rfl
  have F_Lleads_right := fun_mk (st := s_Lleads_right) l_Lleads_right c_Lleads_right k_Lleads_right
  have b_Lleads_right := F_Lleads_right.binds (ps := ["_law_seats", "_law_ties", "_law_standing", "_law_order", "_law_other"]) fun _ _ _ _ _ _ us hl => match us, hl with | [_, _, _, _, _], _ => rfl
  have F_Lothers := fun_mk (st := s_Lothers) l_Lothers c_Lothers k_Lothers
  have b_Lothers := F_Lothers.binds (ps := ["_law_draws_here", "_law_order"]) fun _ _ _ _ _ _ us hl => match us, hl with | [_, _], _ => rfl
  have F_law := fun_mk (st := s_law) l_law c_law k_law
  have b_law := F_law.binds (ps := ["_law_script"]) fun _ _ _ _ _ _ us hl => match us, hl with | [_], _ => rfl
  refine ⟨PySem.W.fnOf "law" "law" (defArgs s_law) (defBody s_law) (defScope s_law) .none kV_law dc_law pm_law an_law cd_law ct_law, [(cc_check_ties, pp_check_ties), (cc_goals_in, pp_goals_in)], spLaw K [pp_check_ties, pp_goals_in], fun p hp => ?_, fun p hp => ?_, fun s u => .of_eq rfl, fun H a ns hl _ hT hS => ⟨a, ns, rfl, hS, hl, fun b hb => ?_, fun _ => rfl⟩, fun base hk hn hTB => ?_⟩
  rotate_right
  · exact ok_law (base := base) {
    n_abs := PySem.W.mg_none_of X T0.g z_abs
    n_all := PySem.W.mg_none_of X T0.g z_all
    n_bool := PySem.W.mg_none_of X T0.g z_bool
    n_enumerate := PySem.W.mg_none_of X T0.g z_enumerate
    n_int := PySem.W.mg_none_of X T0.g z_int
    n_isinstance := PySem.W.mg_none_of X T0.g z_isinstance
    n_len := PySem.W.mg_none_of X T0.g z_len
    n_list := PySem.W.mg_none_of X T0.g z_list
    n_max := PySem.W.mg_none_of X T0.g z_max
    n_min := PySem.W.mg_none_of X T0.g z_min
    n_range := PySem.W.mg_none_of X T0.g z_range
    n_repr := PySem.W.mg_none_of X T0.g z_repr
    n_set := PySem.W.mg_none_of X T0.g z_set
    n_sorted := PySem.W.mg_none_of X T0.g z_sorted
    n_sum := PySem.W.mg_none_of X T0.g z_sum
    n_tuple := PySem.W.mg_none_of X T0.g z_tuple
    n_zip := PySem.W.mg_none_of X T0.g z_zip
    t_FEWEST_SEATS := t_FEWEST_SEATS
    v_FEWEST_SEATS := PySem.W.mg_of X T0.g z_FEWEST_SEATS
    t_MOST_SEATS := t_MOST_SEATS
    v_MOST_SEATS := PySem.W.mg_of X T0.g z_MOST_SEATS
    t_MOST_STEPS := t_MOST_STEPS
    v_MOST_STEPS := PySem.W.mg_of X T0.g z_MOST_STEPS
    a_is_whole := _, fd_is_whole := _, F_is_whole := F_is_whole, m_is_whole := PySem.W.mg_of X T0.g a_is_whole, b_is_whole := b_is_whole
    a_is_within := _, fd_is_within := _, F_is_within := F_is_within, m_is_within := PySem.W.mg_of X T0.g a_is_within, b_is_within := b_is_within
    a_check_seats := _, fd_check_seats := _, F_check_seats := F_check_seats, m_check_seats := PySem.W.mg_of X T0.g a_check_seats, b_check_seats := b_check_seats
    a_check_ties := _, fd_check_ties := _, F_check_ties := F_check_ties, m_check_ties := PySem.W.mg_of X T0.g a_check_ties, b_check_ties := b_check_ties, c_check_ties := cc_check_ties, p_check_ties := pp_check_ties, k_check_ties := code_of_tab a_check_ties l_check_ties t_check_ties, TB_check_ties := hTB (cc_check_ties, pp_check_ties) (by simp), lg_check_ties := lg_check_ties
    a_check_net := _, fd_check_net := _, F_check_net := F_check_net, m_check_net := PySem.W.mg_of X T0.g a_check_net, b_check_net := b_check_net
    a_near_in := _, fd_near_in := _, F_near_in := F_near_in, m_near_in := PySem.W.mg_of X T0.g a_near_in, b_near_in := b_near_in
    a_next_round := _, fd_next_round := _, F_next_round := F_next_round, m_next_round := PySem.W.mg_of X T0.g a_next_round, b_next_round := b_next_round
    a_wrong_place := _, fd_wrong_place := _, F_wrong_place := F_wrong_place, m_wrong_place := PySem.W.mg_of X T0.g a_wrong_place, b_wrong_place := b_wrong_place
    a_check_order := _, fd_check_order := _, F_check_order := F_check_order, m_check_order := PySem.W.mg_of X T0.g a_check_order, b_check_order := b_check_order
    a_check_order_of := _, fd_check_order_of := _, F_check_order_of := F_check_order_of, m_check_order_of := PySem.W.mg_of X T0.g a_check_order_of, b_check_order_of := b_check_order_of
    a_check_orders := _, fd_check_orders := _, F_check_orders := F_check_orders, m_check_orders := PySem.W.mg_of X T0.g a_check_orders, b_check_orders := b_check_orders
    a_breaks_in := _, fd_breaks_in := _, F_breaks_in := F_breaks_in, m_breaks_in := PySem.W.mg_of X T0.g a_breaks_in, b_breaks_in := b_breaks_in
    a_check_standing := _, fd_check_standing := _, F_check_standing := F_check_standing, m_check_standing := PySem.W.mg_of X T0.g a_check_standing, b_check_standing := b_check_standing
    a_check_calls := _, fd_check_calls := _, F_check_calls := F_check_calls, m_check_calls := PySem.W.mg_of X T0.g a_check_calls, b_check_calls := b_check_calls
    a_called_in := _, fd_called_in := _, F_called_in := F_called_in, m_called_in := PySem.W.mg_of X T0.g a_called_in, b_called_in := b_called_in
    a_back_in := _, fd_back_in := _, F_back_in := F_back_in, m_back_in := PySem.W.mg_of X T0.g a_back_in, b_back_in := b_back_in
    a_called := _, fd_called := _, F_called := F_called, m_called := PySem.W.mg_of X T0.g a_called, b_called := b_called
    a_after_rounds := _, fd_after_rounds := _, F_after_rounds := F_after_rounds, m_after_rounds := PySem.W.mg_of X T0.g a_after_rounds, b_after_rounds := b_after_rounds, ds_after_rounds := _, r_after_rounds := r_after_rounds, bd_after_rounds := bd_after_rounds
    a_goals_in := _, fd_goals_in := _, F_goals_in := F_goals_in, m_goals_in := PySem.W.mg_of X T0.g a_goals_in, b_goals_in := b_goals_in, c_goals_in := cc_goals_in, p_goals_in := pp_goals_in, k_goals_in := code_of_tab a_goals_in l_goals_in t_goals_in, TB_goals_in := hTB (cc_goals_in, pp_goals_in) (by simp), lg_goals_in := lg_goals_in
    a_fewest_turns := _, fd_fewest_turns := _, F_fewest_turns := F_fewest_turns, m_fewest_turns := PySem.W.mg_of X T0.g a_fewest_turns, b_fewest_turns := b_fewest_turns
    a_turns := _, fd_turns := _, F_turns := F_turns, m_turns := PySem.W.mg_of X T0.g a_turns, b_turns := b_turns
    a_Ldraws := _, fd_Ldraws := _, F_Ldraws := F_Ldraws, m_Ldraws := PySem.W.mg_of X T0.g a_Ldraws, b_Ldraws := b_Ldraws
    a_Lnext := _, fd_Lnext := _, F_Lnext := F_Lnext, m_Lnext := PySem.W.mg_of X T0.g a_Lnext, b_Lnext := b_Lnext
    a_Lmixed := _, fd_Lmixed := _, F_Lmixed := F_Lmixed, m_Lmixed := PySem.W.mg_of X T0.g a_Lmixed, b_Lmixed := b_Lmixed
    a_Lnet := _, fd_Lnet := _, F_Lnet := F_Lnet, m_Lnet := PySem.W.mg_of X T0.g a_Lnet, b_Lnet := b_Lnet
    a_Lnear := _, fd_Lnear := _, F_Lnear := F_Lnear, m_Lnear := PySem.W.mg_of X T0.g a_Lnear, b_Lnear := b_Lnear
    a_Lwhere := _, fd_Lwhere := _, F_Lwhere := F_Lwhere, m_Lwhere := PySem.W.mg_of X T0.g a_Lwhere, b_Lwhere := b_Lwhere
    a_Lsitting := _, fd_Lsitting := _, F_Lsitting := F_Lsitting, m_Lsitting := PySem.W.mg_of X T0.g a_Lsitting, b_Lsitting := b_Lsitting
    a_Lcalled := _, fd_Lcalled := _, F_Lcalled := F_Lcalled, m_Lcalled := PySem.W.mg_of X T0.g a_Lcalled, b_Lcalled := b_Lcalled
    a_Lbreaks := _, fd_Lbreaks := _, F_Lbreaks := F_Lbreaks, m_Lbreaks := PySem.W.mg_of X T0.g a_Lbreaks, b_Lbreaks := b_Lbreaks
    a_Lturned := _, fd_Lturned := _, F_Lturned := F_Lturned, m_Lturned := PySem.W.mg_of X T0.g a_Lturned, b_Lturned := b_Lturned
    a_Lsteps := _, fd_Lsteps := _, F_Lsteps := F_Lsteps, m_Lsteps := PySem.W.mg_of X T0.g a_Lsteps, b_Lsteps := b_Lsteps
    a_Lleast := _, fd_Lleast := _, F_Lleast := F_Lleast, m_Lleast := PySem.W.mg_of X T0.g a_Lleast, b_Lleast := b_Lleast
    a_Lright := _, fd_Lright := _, F_Lright := F_Lright, m_Lright := PySem.W.mg_of X T0.g a_Lright, b_Lright := b_Lright
    a_Lleads_right := _, fd_Lleads_right := _, F_Lleads_right := F_Lleads_right, m_Lleads_right := PySem.W.mg_of X T0.g a_Lleads_right, b_Lleads_right := b_Lleads_right
    a_Lothers := _, fd_Lothers := _, F_Lothers := F_Lothers, m_Lothers := PySem.W.mg_of X T0.g a_Lothers, b_Lothers := b_Lothers
    a_law := _, fd_law := _, F_law := F_law, m_law := PySem.W.mg_of X T0.g a_law, b_law := b_law
    }
  · simp only [List.mem_cons, List.not_mem_nil, or_false] at hp
    rcases hp with rfl | rfl
    all_goals first | (exact PySem.W.tab_of T0 X r_check_ties t_check_ties) | (exact PySem.W.tab_of T0 X r_goals_in t_goals_in)
  · simp only [List.mem_cons, List.not_mem_nil, or_false] at hp
    rcases hp with rfl | rfl
    all_goals first | (exact n_check_ties) | (exact n_goals_in)
  · obtain ⟨p, hp, rfl⟩ := List.mem_map.mp (show b ∈ ([(cc_check_ties, pp_check_ties), (cc_goals_in, pp_goals_in)] : List (Addr × Addr)).map (·.2) from hb)
    first | exact hT p hp | exact ⟨#[], hT p hp, trip_nil⟩
end Ap



open PySem PySem.W PyProof.Rows in
set_option maxRecDepth 100000 in
set_option maxHeartbeats 0 in
theorem PySem.Challenge.cw_apartcalls_k30_whole_turns_holds : PySem.Challenge.rw_apartcalls_k30_whole_turns.Holds := by
  w_on; o_law; k_head; (case hw => w_witness2)
  k_fill
  refine Ap.walk_g (l := PySem.Challenge.rw_apartcalls_k30_whole_turns) (k := 9) (x := "_law_script") (CX := fun _ => L2.CX0) rfl rfl ⟨rfl, by decide, by decide⟩ (fun w h Y => PySem.W.kIn_of Y) ?F (fun _ _ _ _ _ z => z)
  case F =>
    intro w mg mb fa h loose mean Y KX T0 hmg
    refine' Ap.law_is KX T0 hmg ?z_abs ?z_all ?z_bool ?z_enumerate ?z_int ?z_isinstance ?z_len ?z_list ?z_max ?z_min ?z_range ?z_repr ?z_set ?z_sorted ?z_sum ?z_tuple ?z_zip ?z_FEWEST_SEATS ?z_MOST_SEATS ?z_MOST_STEPS ?a_is_whole ?l_is_whole ?c_is_whole ?k_is_whole ?a_is_within ?l_is_within ?c_is_within ?k_is_within ?a_check_seats ?l_check_seats ?c_check_seats ?k_check_seats ?a_check_ties ?l_check_ties ?c_check_ties ?k_check_ties ?e_check_ties ?d_check_ties ?q_check_ties ?r_check_ties ?n_check_ties ?lg_check_ties ?a_check_net ?l_check_net ?c_check_net ?k_check_net ?a_near_in ?l_near_in ?c_near_in ?k_near_in ?a_next_round ?l_next_round ?c_next_round ?k_next_round ?a_wrong_place ?l_wrong_place ?c_wrong_place ?k_wrong_place ?a_check_order ?l_check_order ?c_check_order ?k_check_order ?a_check_order_of ?l_check_order_of ?c_check_order_of ?k_check_order_of ?a_check_orders ?l_check_orders ?c_check_orders ?k_check_orders ?a_breaks_in ?l_breaks_in ?c_breaks_in ?k_breaks_in ?a_check_standing ?l_check_standing ?c_check_standing ?k_check_standing ?a_check_calls ?l_check_calls ?c_check_calls ?k_check_calls ?a_called_in ?l_called_in ?c_called_in ?k_called_in ?a_back_in ?l_back_in ?c_back_in ?k_back_in ?a_called ?l_called ?c_called ?k_called ?a_after_rounds ?l_after_rounds ?c_after_rounds ?k_after_rounds ?g_after_rounds ?a_goals_in ?l_goals_in ?c_goals_in ?k_goals_in ?e_goals_in ?d_goals_in ?q_goals_in ?r_goals_in ?n_goals_in ?lg_goals_in ?a_fewest_turns ?l_fewest_turns ?c_fewest_turns ?k_fewest_turns ?a_turns ?l_turns ?c_turns ?k_turns ?a_Ldraws ?l_Ldraws ?c_Ldraws ?k_Ldraws ?a_Lnext ?l_Lnext ?c_Lnext ?k_Lnext ?a_Lmixed ?l_Lmixed ?c_Lmixed ?k_Lmixed ?a_Lnet ?l_Lnet ?c_Lnet ?k_Lnet ?a_Lnear ?l_Lnear ?c_Lnear ?k_Lnear ?a_Lwhere ?l_Lwhere ?c_Lwhere ?k_Lwhere ?a_Lsitting ?l_Lsitting ?c_Lsitting ?k_Lsitting ?a_Lcalled ?l_Lcalled ?c_Lcalled ?k_Lcalled ?a_Lbreaks ?l_Lbreaks ?c_Lbreaks ?k_Lbreaks ?a_Lturned ?l_Lturned ?c_Lturned ?k_Lturned ?a_Lsteps ?l_Lsteps ?c_Lsteps ?k_Lsteps ?a_Lleast ?l_Lleast ?c_Lleast ?k_Lleast ?a_Lright ?l_Lright ?c_Lright ?k_Lright ?a_Lleads_right ?l_Lleads_right ?c_Lleads_right ?k_Lleads_right ?a_Lothers ?l_Lothers ?c_Lothers ?k_Lothers ?a_law ?l_law ?c_law ?k_law
    (case z_abs => k_is)
    (case z_all => k_is)
    (case z_bool => k_is)
    (case z_enumerate => k_is)
    (case z_int => k_is)
    (case z_isinstance => k_is)
    (case z_len => k_is)
    (case z_list => k_is)
    (case z_max => k_is)
    (case z_min => k_is)
    (case z_range => k_is)
    (case z_repr => k_is)
    (case z_set => k_is)
    (case z_sorted => k_is)
    (case z_sum => k_is)
    (case z_tuple => k_is)
    (case z_zip => k_is)
    (case z_FEWEST_SEATS => k_is)
    (case z_MOST_SEATS => k_is)
    (case z_MOST_STEPS => k_is)
    (case a_is_whole => k_is)
    (case l_is_whole => k_is)
    (case c_is_whole => k_is)
    (case k_is_whole => k_is)
    (case a_is_within => k_is)
    (case l_is_within => k_is)
    (case c_is_within => k_is)
    (case k_is_within => k_is)
    (case a_check_seats => k_is)
    (case l_check_seats => k_is)
    (case c_check_seats => k_is)
    (case k_check_seats => k_is)
    (case a_check_ties => k_is)
    (case l_check_ties => k_is)
    (case c_check_ties => k_is)
    (case k_check_ties => k_is)
    (case e_check_ties => rfl)
    (case d_check_ties => k_is)
    (case q_check_ties => rfl)
    (case n_check_ties => rfl)
    (case r_check_ties => rfl)
    (case lg_check_ties => decide +kernel)
    (case a_check_net => k_is)
    (case l_check_net => k_is)
    (case c_check_net => k_is)
    (case k_check_net => k_is)
    (case a_near_in => k_is)
    (case l_near_in => k_is)
    (case c_near_in => k_is)
    (case k_near_in => k_is)
    (case a_next_round => k_is)
    (case l_next_round => k_is)
    (case c_next_round => k_is)
    (case k_next_round => k_is)
    (case a_wrong_place => k_is)
    (case l_wrong_place => k_is)
    (case c_wrong_place => k_is)
    (case k_wrong_place => k_is)
    (case a_check_order => k_is)
    (case l_check_order => k_is)
    (case c_check_order => k_is)
    (case k_check_order => k_is)
    (case a_check_order_of => k_is)
    (case l_check_order_of => k_is)
    (case c_check_order_of => k_is)
    (case k_check_order_of => k_is)
    (case a_check_orders => k_is)
    (case l_check_orders => k_is)
    (case c_check_orders => k_is)
    (case k_check_orders => k_is)
    (case a_breaks_in => k_is)
    (case l_breaks_in => k_is)
    (case c_breaks_in => k_is)
    (case k_breaks_in => k_is)
    (case a_check_standing => k_is)
    (case l_check_standing => k_is)
    (case c_check_standing => k_is)
    (case k_check_standing => k_is)
    (case a_check_calls => k_is)
    (case l_check_calls => k_is)
    (case c_check_calls => k_is)
    (case k_check_calls => k_is)
    (case a_called_in => k_is)
    (case l_called_in => k_is)
    (case c_called_in => k_is)
    (case k_called_in => k_is)
    (case a_back_in => k_is)
    (case l_back_in => k_is)
    (case c_back_in => k_is)
    (case k_back_in => k_is)
    (case a_called => k_is)
    (case l_called => k_is)
    (case c_called => k_is)
    (case k_called => k_is)
    (case a_after_rounds => k_is)
    (case l_after_rounds => k_is)
    (case c_after_rounds => k_is)
    (case k_after_rounds => k_is)
    (case g_after_rounds => k_is)
    (case a_goals_in => k_is)
    (case l_goals_in => k_is)
    (case c_goals_in => k_is)
    (case k_goals_in => k_is)
    (case e_goals_in => rfl)
    (case d_goals_in => k_is)
    (case q_goals_in => rfl)
    (case n_goals_in => rfl)
    (case r_goals_in => rfl)
    (case lg_goals_in => decide +kernel)
    (case a_fewest_turns => k_is)
    (case l_fewest_turns => k_is)
    (case c_fewest_turns => k_is)
    (case k_fewest_turns => k_is)
    (case a_turns => k_is)
    (case l_turns => k_is)
    (case c_turns => k_is)
    (case k_turns => k_is)
    (case a_Ldraws => k_is)
    (case l_Ldraws => k_is)
    (case c_Ldraws => k_is)
    (case k_Ldraws => k_is)
    (case a_Lnext => k_is)
    (case l_Lnext => k_is)
    (case c_Lnext => k_is)
    (case k_Lnext => k_is)
    (case a_Lmixed => k_is)
    (case l_Lmixed => k_is)
    (case c_Lmixed => k_is)
    (case k_Lmixed => k_is)
    (case a_Lnet => k_is)
    (case l_Lnet => k_is)
    (case c_Lnet => k_is)
    (case k_Lnet => k_is)
    (case a_Lnear => k_is)
    (case l_Lnear => k_is)
    (case c_Lnear => k_is)
    (case k_Lnear => k_is)
    (case a_Lwhere => k_is)
    (case l_Lwhere => k_is)
    (case c_Lwhere => k_is)
    (case k_Lwhere => k_is)
    (case a_Lsitting => k_is)
    (case l_Lsitting => k_is)
    (case c_Lsitting => k_is)
    (case k_Lsitting => k_is)
    (case a_Lcalled => k_is)
    (case l_Lcalled => k_is)
    (case c_Lcalled => k_is)
    (case k_Lcalled => k_is)
    (case a_Lbreaks => k_is)
    (case l_Lbreaks => k_is)
    (case c_Lbreaks => k_is)
    (case k_Lbreaks => k_is)
    (case a_Lturned => k_is)
    (case l_Lturned => k_is)
    (case c_Lturned => k_is)
    (case k_Lturned => k_is)
    (case a_Lsteps => k_is)
    (case l_Lsteps => k_is)
    (case c_Lsteps => k_is)
    (case k_Lsteps => k_is)
    (case a_Lleast => k_is)
    (case l_Lleast => k_is)
    (case c_Lleast => k_is)
    (case k_Lleast => k_is)
    (case a_Lright => k_is)
    (case l_Lright => k_is)
    (case c_Lright => k_is)
    (case k_Lright => k_is)
    (case a_Lleads_right => k_is)
    (case l_Lleads_right => k_is)
    (case c_Lleads_right => k_is)
    (case k_Lleads_right => k_is)
    (case a_Lothers => k_is)
    (case l_Lothers => k_is)
    (case c_Lothers => k_is)
    (case k_Lothers => k_is)
    (case a_law => k_is)
    (case l_law => k_is)
    (case c_law => k_is)
    (case k_law => k_is)

