import PyProof.Rows.All
import Wide.All
import OpenK.AllK
import Wide.FinOn
import HandS.ForMost
import HandS.ForExc
import HandS.Conv
import HandS.Style
import HandS.NoneIn
import HandS.SortInts
import HandS.EndTab
import HandS.EndBits
import HandS.AnyAll
import HandS.TupSets
import HandS.SetKeys
import HandS.DictComp
import HandS.Evl
import HandS.IsInst
import HandS.Walk
import HandS.WordsDict
import HandS.Strs
import HandS.Small
import HandS.Defaults
import KE.GoesEnum
import HandS.Property
import HandS.GenList
import HandS.ExcIs
import HandS.ExcInit
import HandS.ExcSuper
import HandS.ExcField
import HandS.TryMany
import HandS.Lambda
import HandS.MakeKw
import HandS.MakeKwOnly
import HandS.RepeatKit
import KE.KExcSuper
import KE.KSuper
import PySem.Challenge.RW_apartcalls_k41_what_rooms_refuse
set_option Elab.async false
set_option maxHeartbeats 1000000
set_option linter.all false
set_option maxRecDepth 100000
/-! K0: a relation between heaps, steps through readings, looks. -/
namespace Ap
open PySem L2

/-! ### heaps -/
/-- the tables of the defs in which lambdas stand: the name of all that they hold -/
def lamT : Addr → Option Str := fun b => if b = 350 then some (("_law_made_right" : Str) ++ ".<locals>." ++ "<lambda>") else if b = 364 then some (("_law_deeds_right" : Str) ++ ".<locals>." ++ "<lambda>") else if b = 371 then some (("_law_right" : Str) ++ ".<locals>." ++ "<lambda>") else none
/-- H' is H, but for the things at S (they may have changed) and the tables (they may have grown) -/
structure Kp (S : List Addr) (H H' : Hp) : Prop where
  keep : ∀ b o, b ∉ S → H b = some o → (∀ ps, o ≠ .tbl ps) → H' b = some o
  tbl : ∀ b ps, H b = some (.tbl ps) → TriplesOk ps.toList → ∃ ps', H' b = some (.tbl ps') ∧ TriplesOk ps'.toList
  there : ∀ b o, H b = some o → ∃ o', H' b = some o'
  lam : ∀ b q, lamT b = some q → LamX.TabS H b q → LamX.TabS H' b q
theorem Kp.refl (S : List Addr) (H : Hp) : Kp S H H := ⟨fun _ _ _ h _ => h, fun _ ps h t => ⟨ps, h, t⟩, fun _ o h => ⟨o, h⟩, fun _ _ _ h => h⟩
theorem Kp.mono {S S' : List Addr} {H H' : Hp} (k : Kp S H H') (h : ∀ b ∈ S, b ∈ S') : Kp S' H H' := ⟨fun b o n => k.keep b o (fun z => n (h b z)), k.tbl, k.there, k.lam⟩
theorem Kp.any {S : List Addr} {H H' : Hp} (k : Kp [] H H') : Kp S H H' := k.mono (fun _ z => nomatch z)
theorem Kp.trans {S : List Addr} {H H1 H2 : Hp} (a : Kp S H H1) (b : Kp S H1 H2) : Kp S H H2 :=
  ⟨fun c o n h t => b.keep c o n (a.keep c o n h t) t, fun c ps h t => by
    obtain ⟨ps', h', t'⟩ := a.tbl c ps h t
    exact b.tbl c ps' h' t', fun c o h => by
    obtain ⟨o', h'⟩ := a.there c o h
    exact b.there c o' h', fun c q l t => b.lam c q l (a.lam c q l t)⟩
def kd : HO → Nat
  | .lst _ => 0 | .tup _ => 1 | .dK _ => 2 | .dT _ => 3 | .set _ _ => 4 | .ins _ _ _ => 5 | .own _ => 6 | .xd _ => 7 | .met _ _ => 8 | .rng _ _ => 9 | .frz _ _ => 10 | .tbl _ => 11 | .ext _ => 12
/-- no lambda's code lies at p -/
def NC (H : Hp) (p : Addr) : Prop := ∀ q, H p ≠ some (LamX.CodeO p q)
theorem NC.none {H : Hp} {p : Addr} (h : H p = none) : NC H p := fun q z => by rw [h] at z; cases z
theorem NC.some {H : Hp} {p : Addr} {o : HO} (h : H p = some o) (k : Nat.beq (kd o) 12 = false) : NC H p := fun q z => by
  rw [h] at z
  cases z
  exact absurd k (show ¬ (Nat.beq 12 12 = false) by decide)
/-- a heap in which a lambda's code could lie at p -/
theorem code_heap (p : Addr) (q : Str) : ∃ h : Heap, (∃ (oc : Obj) (vs : Array Value) (t : Tok), h.get? p = some oc ∧ oc.data = .fields vs ∧ vs[1]? = some (.str q t)) ∧ ∀ b o, h.get? b = some o → ∃ vs, o.data = .fields vs := by
  refine ⟨{ objs := Array.replicate (p + 1) { cls := .none, data := .fields #[.none, .str q 0] } }, ⟨{ cls := .none, data := .fields #[.none, .str q 0] }, _, 0, ?_, rfl, rfl⟩, fun b o e => ?_⟩
  · have e : (Array.replicate (p + 1) ({ cls := .none, data := .fields #[.none, .str q 0] } : Obj))[p]? = some { cls := .none, data := .fields #[.none, .str q 0] } := by
      rw [Array.getElem?_replicate, if_pos (Nat.lt_succ_self _)]
    unfold Heap.get?
    rw [e]
  · unfold Heap.get? at e
    rw [Array.getElem?_replicate] at e
    by_cases l : b < p + 1
    · rw [if_pos l] at e
      cases e
      exact ⟨_, rfl⟩
    · rw [if_neg l] at e
      cases e
theorem NC.ext {H : Hp} {p : Addr} {F : Heap → Prop} (e : H p = Option.some (.ext F)) (hF : ∀ h, F h → ∃ b o, h.get? b = Option.some o ∧ ∀ vs, o.data ≠ .fields vs) : NC H p := fun q z => by
  rw [e] at z
  unfold LamX.CodeO at z
  have z := HO.ext.inj (Option.some.inj z)
  obtain ⟨h, h1, h2⟩ := code_heap p q
  obtain ⟨b, o, b1, b2⟩ := hF h (by rw [z]; exact h1)
  obtain ⟨vs, b3⟩ := h2 b o b1
  exact b2 vs b3
theorem NC.self {H : Hp} {p : Addr} {o : HO} (k : Nat.beq (kd o) 12 = false) : NC (upd H p o) p := NC.some upd_same k
theorem NC.step {H : Hp} {p q : Addr} {o : HO} (k : Nat.beq (kd o) 12 = false) (h : NC H p) : NC (upd H q o) p := by
  by_cases z : p = q
  · subst z; exact NC.self k
  · intro u e
    rw [upd_ne z] at e
    exact h u e
theorem TabS.upd_ {H' : Hp} {b p : Addr} {q : Str} {o : HO} (hb : b ≠ p) (nc : NC H' p) (t : LamX.TabS H' b q) : LamX.TabS (upd H' p o) b q := by
  obtain ⟨ps, e, tr, f⟩ := t
  refine ⟨ps, by rw [upd_ne hb]; exact e, tr, fun pos cv hc => ?_⟩
  obtain ⟨c, e1, e2⟩ := f pos cv hc
  exact ⟨c, e1, by rw [upd_ne (show c ≠ p from fun z => by rw [z] at e2; exact nc q e2)]; exact e2⟩
theorem Kp.new {S : List Addr} {H : Hp} {p : Addr} {o : HO} (h : H p = none) : Kp S H (upd H p o) :=
  ⟨fun b u _ e _ => by rw [upd_ne (ne_of_none e h)]; exact e, fun b ps e t => ⟨ps, by rw [upd_ne (ne_of_none e h)]; exact e, t⟩, fun b u e => ⟨u, by rw [upd_ne (ne_of_none e h)]; exact e⟩,
    fun b q _ t => TabS.upd_ (by obtain ⟨ps, e, _⟩ := t; exact ne_of_none e h) (NC.none h) t⟩
/-- a thing that is not known to H is laid or changed -/
theorem Kp.put {S : List Addr} {H H' : Hp} {p : Addr} {o : HO} (k : Kp S H H') (h : H p = none) (nc : NC H' p := by first | exact NC.self rfl | exact NC.none (by assumption) | exact NC.some (by assumption) rfl | (refine NC.step rfl ?_; first | exact NC.self rfl | exact NC.none (by assumption) | exact NC.some (by assumption) rfl | (refine NC.step rfl ?_; first | exact NC.self rfl | exact NC.none (by assumption) | exact NC.some (by assumption) rfl | (refine NC.step rfl ?_; first | exact NC.self rfl | exact NC.none (by assumption) | exact NC.some (by assumption) rfl | (refine NC.step rfl ?_; first | exact NC.self rfl | exact NC.none (by assumption) | exact NC.some (by assumption) rfl))))) : Kp S H (upd H' p o) := by
  refine ⟨fun b u n e t => ?_, fun b ps e t => ?_, fun b u e => ?_, fun b q l t => ?_⟩
  · rw [upd_ne (ne_of_none e h)]; exact k.keep b u n e t
  · rw [upd_ne (ne_of_none e h)]; exact k.tbl b ps e t
  · rw [upd_ne (ne_of_none e h)]; exact k.there b u e
  · exact TabS.upd_ (by obtain ⟨ps, e, _⟩ := t; exact ne_of_none e h) nc (k.lam b q l t)
/-- a thing at S is changed -/
theorem Kp.mut {S : List Addr} {H H' : Hp} {p : Addr} {o u : HO} (k : Kp S H H') (h : p ∈ S) (hp : H p = some u) (nt : ∀ ps, u ≠ .tbl ps) (nc : NC H' p := by first | exact NC.self rfl | exact NC.none (by assumption) | exact NC.some (by assumption) rfl | (refine NC.step rfl ?_; first | exact NC.self rfl | exact NC.none (by assumption) | exact NC.some (by assumption) rfl | (refine NC.step rfl ?_; first | exact NC.self rfl | exact NC.none (by assumption) | exact NC.some (by assumption) rfl | (refine NC.step rfl ?_; first | exact NC.self rfl | exact NC.none (by assumption) | exact NC.some (by assumption) rfl | (refine NC.step rfl ?_; first | exact NC.self rfl | exact NC.none (by assumption) | exact NC.some (by assumption) rfl))))) : Kp S H (upd H' p o) := by
  refine ⟨fun b v n e t => ?_, fun b ps e t => ?_, fun b v e => ?_, fun b q l t => ?_⟩
  · rw [upd_ne (show b ≠ p from fun z => n (by rw [z]; exact h))]; exact k.keep b v n e t
  · rw [upd_ne (show b ≠ p from fun z => by rw [z, hp] at e; exact nt ps (Option.some.inj e))]; exact k.tbl b ps e t
  · by_cases z : b = p
    · exact ⟨o, by rw [z]; exact upd_same⟩
    · rw [upd_ne z]; exact k.there b v e
  · refine TabS.upd_ (fun z => ?_) nc (k.lam b q l t)
    obtain ⟨ps, e, _⟩ := t
    rw [z, hp] at e
    exact nt ps (Option.some.inj e)
theorem Kp.free {S : List Addr} {H H' : Hp} (k : Kp S H H') {p : Addr} (h : H' p = none) : H p = none := by
  cases e : H p with
  | none => rfl
  | some o =>
    obtain ⟨o', h'⟩ := k.there p o e
    rw [h] at h'
    cases h'
theorem Kp.lst {S : List Addr} {H H' : Hp} (k : Kp S H H') {p : Addr} {xs : List V} (n : p ∉ S) (h : H p = some (.lst xs)) : H' p = some (.lst xs) := k.keep p _ n h (fun _ z => nomatch z)
theorem Kp.tup {S : List Addr} {H H' : Hp} (k : Kp S H H') {p : Addr} {xs : List V} (n : p ∉ S) (h : H p = some (.tup xs)) : H' p = some (.tup xs) := k.keep p _ n h (fun _ z => nomatch z)
theorem Kp.frz {S : List Addr} {H H' : Hp} (k : Kp S H H') {p : Addr} {o : Obj} {u : HO} (n : p ∉ S) (h : H p = some (.frz o u)) : H' p = some (.frz o u) := k.keep p _ n h (fun _ z => nomatch z)
theorem Kp.rdl {S : List Addr} {K : PySem.W.Frag} {H H' : Hp} (k : Kp S H H') {p : Addr} {xs : List V} (n : p ∉ S) (h : SqL K H p xs) : SqL K H' p xs := by
  rcases h with (h | ⟨o, h⟩) | h
  · exact .inl (.inl (k.lst n h))
  · exact .inl (.inr ⟨o, k.frz n h⟩)
  · exact .inr h
/-- the tables that are looked at -/
def Tabs (T : List Addr) (H : Hp) : Prop := ∀ b ∈ T, ∃ ps, H b = some (.tbl ps) ∧ TriplesOk ps.toList
theorem Kp.tabs {S T : List Addr} {H H' : Hp} (k : Kp S H H') (h : Tabs T H) : Tabs T H' := fun b hb => by
  obtain ⟨ps, e, t⟩ := h b hb
  exact k.tbl b ps e t

/-! ### data, with what is true of its places -/
mutual
inductive Da (P : Addr → Prop) (H : Hp) : V → PyData → Prop
  | non : Da P H .non .none
  | bl (b : Bool) : Da P H (.bl b) (.bool b)
  | int (i : Int) : Da P H (.int i) (.int i)
  | str (x : Str) : Da P H (.str x) (.str x)
  | lst {a : Addr} {xs : List V} {ds : List PyData} : P a → H a = some (.lst xs) → DaAll P H xs ds → Da P H (.ref a) (.list ds)
  | tup {a : Addr} {xs : List V} {ds : List PyData} : P a → H a = some (.tup xs) → DaAll P H xs ds → Da P H (.ref a) (.tuple ds)
inductive DaAll (P : Addr → Prop) (H : Hp) : List V → List PyData → Prop
  | nil : DaAll P H [] []
  | cons {v : V} {vs : List V} {d : PyData} {ds : List PyData} : Da P H v d → DaAll P H vs ds → DaAll P H (v :: vs) (d :: ds)
end
mutual
theorem Da.dp {P : Addr → Prop} {K : PySem.W.Frag} {H : Hp} : ∀ {d : PyData} {v : V}, Da P H v d → Dp K H v d
  | _, _, .non => .non
  | _, _, .bl b => .bl b
  | _, _, .int i => .int i
  | _, _, .str x => .str x
  | _, _, .lst _ h a => .lst (SqL.of h) (DaAll.dp a)
  | _, _, .tup _ h a => .tup (SqT.of h) (DaAll.dp a)
theorem DaAll.dp {P : Addr → Prop} {K : PySem.W.Frag} {H : Hp} : ∀ {ds : List PyData} {vs : List V}, DaAll P H vs ds → DpAll K H vs ds
  | _, _, .nil => .nil
  | _, _, .cons h t => .cons (Da.dp h) (DaAll.dp t)
end
mutual
/-- kept, and what is true of the places made wider -/
theorem Da.keep {P P' : Addr → Prop} {S : List Addr} {H H' : Hp} (k : Kp S H H') (n : ∀ b, P b → b ∉ S) (w : ∀ b, P b → P' b) : ∀ {d : PyData} {v : V}, Da P H v d → Da P' H' v d
  | _, _, .non => .non
  | _, _, .bl b => .bl b
  | _, _, .int i => .int i
  | _, _, .str x => .str x
  | _, _, .lst p h a => .lst (w _ p) (k.lst (n _ p) h) (DaAll.keep k n w a)
  | _, _, .tup p h a => .tup (w _ p) (k.tup (n _ p) h) (DaAll.keep k n w a)
theorem DaAll.keep {P P' : Addr → Prop} {S : List Addr} {H H' : Hp} (k : Kp S H H') (n : ∀ b, P b → b ∉ S) (w : ∀ b, P b → P' b) : ∀ {ds : List PyData} {vs : List V}, DaAll P H vs ds → DaAll P' H' vs ds
  | _, _, .nil => .nil
  | _, _, .cons h t => .cons (Da.keep k n w h) (DaAll.keep k n w t)
end
theorem DaAll.append {P : Addr → Prop} {H : Hp} : ∀ {xs ys : List V} {ds es : List PyData}, DaAll P H xs ds → DaAll P H ys es → DaAll P H (xs ++ ys) (ds ++ es)
  | _, _, _, _, .nil, b => b
  | _, _, _, _, .cons h t, b => .cons h (DaAll.append t b)
theorem DaAll.length {P : Addr → Prop} {H : Hp} : ∀ {xs : List V} {ds : List PyData}, DaAll P H xs ds → xs.length = ds.length
  | _, _, .nil => rfl
  | _, _, .cons _ t => by simp [DaAll.length t]
theorem DaAll.get {P : Addr → Prop} {H : Hp} : ∀ {xs : List V} {ds : List PyData} {i : Nat} {d : PyData}, DaAll P H xs ds → ds[i]? = some d → ∃ v, xs[i]? = some v ∧ Da P H v d
  | _, _, 0, d, .cons h _, e => ⟨_, rfl, by cases e; exact h⟩
  | _, _, i + 1, d, .cons _ t, e => DaAll.get (i := i) t e
theorem DaAll.getV {P : Addr → Prop} {H : Hp} : ∀ {xs : List V} {ds : List PyData} {i : Nat} {v : V}, DaAll P H xs ds → xs[i]? = some v → ∃ d, ds[i]? = some d ∧ Da P H v d
  | _, _, 0, v, .cons h _, e => ⟨_, rfl, by cases e; exact h⟩
  | _, _, i + 1, v, .cons _ t, e => DaAll.getV (i := i) t e
theorem DaAll.ints {P : Addr → Prop} {H : Hp} : ∀ (ns : List Int), DaAll P H (ns.map V.int) (ns.map PyData.int)
  | [] => .nil
  | n :: r => .cons (.int n) (DaAll.ints r)
theorem DaAll.ints_inv {P : Addr → Prop} {H : Hp} : ∀ {ns : List Int} {xs : List V}, DaAll P H xs (ns.map PyData.int) → xs = ns.map V.int
  | [], _, .nil => rfl
  | n :: r, _, .cons (.int _) t => by rw [DaAll.ints_inv (ns := r) t]; rfl
theorem Da.ints {P : Addr → Prop} {H : Hp} {p : Addr} {ns : List Int} (h : P p) (e : H p = some (.lst (ns.map V.int))) : Da P H (.ref p) (.list (ns.map PyData.int)) := .lst h e (DaAll.ints ns)
theorem Da.list_inv {P : Addr → Prop} {H : Hp} {v : V} {ds : List PyData} (h : Da P H v (.list ds)) : ∃ p xs, v = .ref p ∧ P p ∧ H p = some (.lst xs) ∧ DaAll P H xs ds := by
  cases h with
  | lst a b c => exact ⟨_, _, rfl, a, b, c⟩
theorem Da.ints_inv {P : Addr → Prop} {H : Hp} {v : V} {ns : List Int} (h : Da P H v (.list (ns.map PyData.int))) : ∃ p, v = .ref p ∧ P p ∧ H p = some (.lst (ns.map V.int)) := by
  obtain ⟨p, xs, rfl, a, b, c⟩ := h.list_inv
  rw [DaAll.ints_inv c] at b
  exact ⟨p, rfl, a, b⟩

theorem triv_sz {n : Nat} (h : n ≤ 1000000) : n ≤ sizeLine := Nat.le_trans h (by decide)
theorem triv_szl {n : Nat} (h : n ≤ 1000000) : n < sizeLine := Nat.lt_of_le_of_lt h (by decide)
theorem atI_of {α : Type} {xs : List α} {i : Int} {n : Nat} {v : α} (e : i = n) (h : xs[n]? = some v) : atI xs i = some v := by
  rw [e]
  exact atI_nat h
theorem ixN_of {n k : Nat} {i : Int} (e : i = (k : Int)) (h : k < n) : ixN n i = some k := by
  subst e
  unfold ixN
  rw [if_pos (by omega), if_pos (by omega)]
  rfl
/-! ### steps through readings -/
/-- one step: of the goal G the goal N is left -/
class St (G : Prop) (N : outParam Prop) : Prop where
  go : N → G
section
variable {X : Cx} {K : PySem.W.Frag} {σ : L2.St} {H H1 : Hp} {Q : VK} {v w' x y z : V} {t u : TS} {te tf : TE} {tt tu : TT} {g : TG} {ta : TA} {D : Ends} {i j : Int}
theorem g_seq (h : t ⟨u D, D.rt, D.bk, D.ct⟩ σ H) : tSeq t u D σ H := h
instance i_seq : St (tSeq t u D σ H) (t ⟨u D, D.rt, D.bk, D.ct⟩ σ H) := ⟨g_seq⟩
def kG (g : TG) (R : L2.St → Hp → Prop) (σ : L2.St) : VK := fun x H1 => g x σ H1 R
theorem g_kG {R : L2.St → Hp → Prop} (h : g v σ H R) : kG g R σ v H := h
instance i_kG {R : L2.St → Hp → Prop} : St (kG g R σ v H) (g v σ H R) := ⟨g_kG⟩
theorem g_asg (h : te σ H (kG g D.nx σ)) : tAsg te g D σ H := h
instance i_asg : St (tAsg te g D σ H) (te σ H (kG g D.nx σ)) := ⟨g_asg⟩
def kDr (R : L2.St → Hp → Prop) (σ : L2.St) : VK := fun _ H1 => R σ H1
theorem g_kDr {R : L2.St → Hp → Prop} (h : R σ H) : kDr R σ v H := h
instance i_kDr {R : L2.St → Hp → Prop} : St (kDr R σ v H) (R σ H) := ⟨g_kDr⟩
theorem g_drop (h : te σ H (kDr D.nx σ)) : tDrop te D σ H := h
instance i_drop : St (tDrop te D σ H) (te σ H (kDr D.nx σ)) := ⟨g_drop⟩
theorem g_ret (h : te σ H D.rt) : tRet te D σ H := h
instance i_ret : St (tRet te D σ H) (te σ H D.rt) := ⟨g_ret⟩
theorem g_retN (h : D.rt .non H) : tRetN D σ H := h
instance i_retN : St (tRetN D σ H) (D.rt .non H) := ⟨g_retN⟩
def kIf (A B : Hp → Prop) : Bool → Hp → Prop := fun b H1 => if b = true then A H1 else B H1
theorem g_if (h : tt σ H (kIf (t D σ) (u D σ))) : tIfS tt t u D σ H := h
instance i_if : St (tIfS tt t u D σ H) (tt σ H (kIf (t D σ) (u D σ))) := ⟨g_if⟩
section
variable {A B : Hp → Prop} {c : Prop} [Decidable c] {b : Bool}
theorem g_kT (h : A H) : kIf A B true H := h
instance i_kT : St (kIf A B true H) (A H) := ⟨g_kT⟩
theorem g_kF (h : B H) : kIf A B false H := by
  show if false = true then A H else B H
  rw [if_neg Bool.false_ne_true]; exact h
instance i_kF : St (kIf A B false H) (B H) := ⟨g_kF⟩
theorem g_kB (h1 : b = true → A H) (h2 : b = false → B H) : kIf A B b H := by
  cases b with
  | true => exact g_kT (h1 rfl)
  | false => exact g_kF (h2 rfl)
theorem g_kD (h1 : c → A H) (h2 : ¬ c → B H) : kIf A B (decide c) H := g_kB (fun e => h1 (of_decide_eq_true e)) (fun e => h2 (of_decide_eq_false e))
theorem g_kN (h1 : ¬ c → A H) (h2 : c → B H) : kIf A B (!decide c) H := g_kB (fun e => h1 (fun z => by rw [decide_eq_true z] at e; cases e)) (fun e => h2 (by
  by_cases z : c
  · exact z
  · rw [decide_eq_false z] at e; cases e))
theorem g_kY (e : b = true) (h : A H) : kIf A B b H := by subst e; exact g_kT h
theorem g_kX (e : b = false) (h : B H) : kIf A B b H := by subst e; exact g_kF h
theorem g_kDY (e : c) (h : A H) : kIf A B (decide c) H := g_kY (decide_eq_true e) h
theorem g_kDX (e : ¬ c) (h : B H) : kIf A B (decide c) H := g_kX (decide_eq_false e) h
theorem g_kNY (e : ¬ c) (h : A H) : kIf A B (!decide c) H := g_kY (by rw [decide_eq_false e]; rfl) h
theorem g_kNX (e : c) (h : B H) : kIf A B (!decide c) H := g_kX (by rw [decide_eq_true e]; rfl) h
end
theorem g_next (h : D.nx σ H) : tNext D σ H := h
instance i_next : St (tNext D σ H) (D.nx σ H) := ⟨g_next⟩
theorem g_brk (h : D.bk σ H) : tBreak D σ H := h
instance i_brk : St (tBreak D σ H) (D.bk σ H) := ⟨g_brk⟩
section
variable {a c d : L2.St → Hp → Prop} {b : VK}
theorem g_nx (h : a σ H) : Ends.nx (Ends.mk a b c d) σ H := h
instance i_nx : St (Ends.nx (Ends.mk a b c d) σ H) (a σ H) := ⟨g_nx⟩
theorem g_rt (h : b v H) : Ends.rt (Ends.mk a b c d) v H := h
instance i_rt : St (Ends.rt (Ends.mk a b c d) v H) (b v H) := ⟨g_rt⟩
theorem g_bk (h : c σ H) : Ends.bk (Ends.mk a b c d) σ H := h
instance i_bk : St (Ends.bk (Ends.mk a b c d) σ H) (c σ H) := ⟨g_bk⟩
theorem g_ct (h : d σ H) : Ends.ct (Ends.mk a b c d) σ H := h
instance i_ct : St (Ends.ct (Ends.mk a b c d) σ H) (d σ H) := ⟨g_ct⟩
end
theorem g_c (h : Q v H) : tC v σ H Q := h
instance i_c : St (tC v σ H Q) (Q v H) := ⟨g_c⟩
def kO1 (r : R2) (tf : TE) (σ : L2.St) (Q : VK) : VK := fun x H1 => tf σ H1 fun y H2 => r x y H2 Q
def kO2 (r : R2) (x : V) (Q : VK) : VK := fun y H2 => r x y H2 Q
theorem g_op {r : R2} (h : te σ H (kO1 r tf σ Q)) : tOp r te tf σ H Q := h
instance i_op {r : R2} : St (tOp r te tf σ H Q) (te σ H (kO1 r tf σ Q)) := ⟨g_op⟩
theorem g_kO1 {r : R2} (h : tf σ H (kO2 r x Q)) : kO1 r tf σ Q x H := h
instance i_kO1 {r : R2} : St (kO1 r tf σ Q x H) (tf σ H (kO2 r x Q)) := ⟨g_kO1⟩
theorem g_kO2 {r : R2} (h : r x y H Q) : kO2 r x Q y H := h
instance i_kO2 {r : R2} : St (kO2 r x Q y H) (r x y H Q) := ⟨g_kO2⟩
def kU (r : V → Hp → VK → Prop) (Q : VK) : VK := fun x H1 => r x H1 Q
theorem g_un {r : V → Hp → VK → Prop} (h : te σ H (kU r Q)) : tUn r te σ H Q := h
instance i_un {r : V → Hp → VK → Prop} : St (tUn r te σ H Q) (te σ H (kU r Q)) := ⟨g_un⟩
theorem g_kU {r : V → Hp → VK → Prop} (h : r x H Q) : kU r Q x H := h
instance i_kU {r : V → Hp → VK → Prop} : St (kU r Q x H) (r x H Q) := ⟨g_kU⟩
theorem g_rI0 {f : Int → Int → V} (h : Q (f i j) H) : rI0 f (.int i) (.int j) H Q := ⟨i, j, rfl, rfl, h⟩
instance i_rI0 {f : Int → Int → V} : St (rI0 f (.int i) (.int j) H Q) (Q (f i j) H) := ⟨g_rI0⟩
theorem g_rI {C : Int → Int → Prop} {f : Int → Int → V} (c : C i j) (h : Q (f i j) H) : rI C f (.int i) (.int j) H Q := ⟨i, j, rfl, rfl, c, h⟩
theorem g_rU {f : Int → V} (h : Q (f i) H) : rU f (.int i) H Q := ⟨i, rfl, h⟩
instance i_rU {f : Int → V} : St (rU f (.int i) H Q) (Q (f i) H) := ⟨g_rU⟩
abbrev LK := List V → Hp → Prop
theorem g_nil {R : LK} (h : R [] H) : tNil σ H R := h
instance i_nil {R : LK} : St (tNil σ H R) (R [] H) := ⟨g_nil⟩
def kC1 (ta : TA) (σ : L2.St) (R : LK) : VK := fun x H1 => ta σ H1 fun xs H2 => R (x :: xs) H2
def kC2 (x : V) (R : LK) : LK := fun xs H2 => R (x :: xs) H2
theorem g_cons {R : LK} (h : te σ H (kC1 ta σ R)) : tCons te ta σ H R := h
instance i_cons {R : LK} : St (tCons te ta σ H R) (te σ H (kC1 ta σ R)) := ⟨g_cons⟩
theorem g_kC1 {R : LK} (h : ta σ H (kC2 x R)) : kC1 ta σ R x H := h
instance i_kC1 {R : LK} : St (kC1 ta σ R x H) (ta σ H (kC2 x R)) := ⟨g_kC1⟩
theorem g_kC2 {R : LK} {xs : List V} (h : R (x :: xs) H) : kC2 x R xs H := h
instance i_kC2 {R : LK} {xs : List V} : St (kC2 x R xs H) (R (x :: xs) H) := ⟨g_kC2⟩
def kL (Q : VK) : LK := fun xs H1 => xs.length ≤ sizeLine ∧ ∀ p, H1 p = none → Q (.ref p) (upd H1 p (.lst xs))
def kT (Q : VK) : LK := fun xs H1 => xs.length ≤ sizeLine ∧ ∀ p, H1 p = none → Q (.ref p) (upd H1 p (.tup xs))
theorem g_lst (h : ta σ H (kL Q)) : tLst ta σ H Q := h
instance i_lst : St (tLst ta σ H Q) (ta σ H (kL Q)) := ⟨g_lst⟩
theorem g_tup (h : ta σ H (kT Q)) : tTup ta σ H Q := h
instance i_tup : St (tTup ta σ H Q) (ta σ H (kT Q)) := ⟨g_tup⟩
theorem g_kL {xs : List V} (s : Nat.ble xs.length 1000000 = true) (h : ∀ p, H p = none → Q (.ref p) (upd H p (.lst xs))) : kL Q xs H := ⟨Nat.le_trans (Nat.le_of_ble_eq_true s) (by decide), h⟩
theorem g_kTu {xs : List V} (s : Nat.ble xs.length 1000000 = true) (h : ∀ p, H p = none → Q (.ref p) (upd H p (.tup xs))) : kT Q xs H := ⟨Nat.le_trans (Nat.le_of_ble_eq_true s) (by decide), h⟩
def kR (r : List V → Hp → VK → Prop) (Q : VK) : LK := fun vs H1 => r vs H1 Q
theorem g_cb {r : List V → Hp → VK → Prop} (h : ta σ H (kR r Q)) : tCB r ta σ H Q := h
instance i_cb {r : List V → Hp → VK → Prop} : St (tCB r ta σ H Q) (ta σ H (kR r Q)) := ⟨g_cb⟩
theorem g_kR {r : List V → Hp → VK → Prop} {vs : List V} (h : r vs H Q) : kR r Q vs H := h
instance i_kR {r : List V → Hp → VK → Prop} {vs : List V} : St (kR r Q vs H) (r vs H Q) := ⟨g_kR⟩
def kS (sp : Sp) (dvs : List V) (E : XK) (Q : VK) : LK := fun vs H1 => sp (vs ++ dvs) H1 Q E
theorem g_call {sp : Sp} {dvs : List V} {E : XK} (h : ta σ H (kS sp dvs E Q)) : tCall sp dvs E ta σ H Q := h
instance i_call {sp : Sp} {dvs : List V} {E : XK} : St (tCall sp dvs E ta σ H Q) (ta σ H (kS sp dvs E Q)) := ⟨g_call⟩
/-- at a call: the promise's own premises -/
theorem g_kS {sp : Sp} {dvs vs : List V} {E : XK} (h : sp (vs ++ dvs) H Q E) : kS sp dvs E Q vs H := h
abbrev BK := Bool → Hp → Prop
def kB (R : BK) : VK := fun x H' => ∃ k, x = .bl k ∧ R k H'
theorem g_test {R : BK} (h : te σ H (kB R)) : tTest te σ H R := h
instance i_test {R : BK} : St (tTest te σ H R) (te σ H (kB R)) := ⟨g_test⟩
theorem g_tB {R : BK} (h : te σ H (kB R)) : tB te σ H R := h
instance i_tB {R : BK} : St (tB te σ H R) (te σ H (kB R)) := ⟨g_tB⟩
theorem g_kBl {b : Bool} {R : BK} (h : R b H) : kB R (.bl b) H := ⟨b, rfl, h⟩
instance i_kBl {b : Bool} {R : BK} : St (kB R (.bl b) H) (R b H) := ⟨g_kBl⟩
def kAn (tu : TT) (σ : L2.St) (R : BK) : BK := kIf (fun H1 => tu σ H1 R) (R false)
def kOr (tu : TT) (σ : L2.St) (R : BK) : BK := kIf (R true) (fun H1 => tu σ H1 R)
def kNo (R : BK) : BK := fun c H1 => R (!c) H1
theorem g_and {R : BK} (h : tt σ H (kIf (fun H1 => tu σ H1 R) (R false))) : tAnd tt tu σ H R := h
instance i_and {R : BK} : St (tAnd tt tu σ H R) (tt σ H (kIf (fun H1 => tu σ H1 R) (R false))) := ⟨g_and⟩
theorem g_or {R : BK} (h : tt σ H (kIf (R true) (fun H1 => tu σ H1 R))) : tOr tt tu σ H R := h
instance i_or {R : BK} : St (tOr tt tu σ H R) (tt σ H (kIf (R true) (fun H1 => tu σ H1 R))) := ⟨g_or⟩
theorem g_not {R : BK} (h : tt σ H (kNo R)) : tNot tt σ H R := h
instance i_not {R : BK} : St (tNot tt σ H R) (tt σ H (kNo R)) := ⟨g_not⟩
theorem g_kNo {R : BK} {b : Bool} (h : R (!b) H) : kNo R b H := h
instance i_kNo {R : BK} {b : Bool} : St (kNo R b H) (R (!b) H) := ⟨g_kNo⟩
theorem g_ifE (h : tt σ H (kIf (fun H1 => te σ H1 Q) (fun H1 => tf σ H1 Q))) : tIf tt te tf σ H Q := h
instance i_ifE : St (tIf tt te tf σ H Q) (tt σ H (kIf (fun H1 => te σ H1 Q) (fun H1 => tf σ H1 Q))) := ⟨g_ifE⟩
def kNV (Q : VK) : VK := fun x H1 => ∃ c, x = .bl c ∧ Q (.bl (!c)) H1
def kIV (A B : Hp → Prop) : VK := fun x H1 => ∃ c, x = .bl c ∧ kIf A B c H1
theorem g_notV (h : te σ H (kNV Q)) : tNotV te σ H Q := h
instance i_notV : St (tNotV te σ H Q) (te σ H (kNV Q)) := ⟨g_notV⟩
theorem g_kNV {b : Bool} (h : Q (.bl (!b)) H) : kNV Q (.bl b) H := ⟨b, rfl, h⟩
instance i_kNV {b : Bool} : St (kNV Q (.bl b) H) (Q (.bl (!b)) H) := ⟨g_kNV⟩
theorem g_andV (h : te σ H (kIV (fun H1 => tf σ H1 Q) (fun H1 => Q (.bl false) H1))) : tAndV te tf σ H Q := h
instance i_andV : St (tAndV te tf σ H Q) (te σ H (kIV (fun H1 => tf σ H1 Q) (fun H1 => Q (.bl false) H1))) := ⟨g_andV⟩
theorem g_orV (h : te σ H (kIV (fun H1 => Q (.bl true) H1) (fun H1 => tf σ H1 Q))) : tOrV te tf σ H Q := h
instance i_orV : St (tOrV te tf σ H Q) (te σ H (kIV (fun H1 => Q (.bl true) H1) (fun H1 => tf σ H1 Q))) := ⟨g_orV⟩
theorem g_kIV {A B : Hp → Prop} {b : Bool} (h : kIf A B b H) : kIV A B (.bl b) H := ⟨b, rfl, h⟩
instance i_kIV {A B : Hp → Prop} {b : Bool} : St (kIV A B (.bl b) H) (kIf A B b H) := ⟨g_kIV⟩
theorem g_eq (s : scal x y = true) (h : Q (.bl (decide (x = y))) H) : rEq x y H Q := ⟨s, h⟩
theorem g_eqI (h : Q (.bl (decide (i = j))) H) : rEq (.int i) (.int j) H Q := ⟨rfl, by rw [show decide (V.int i = V.int j) = decide (i = j) by simp]; exact h⟩
instance i_eqI : St (rEq (.int i) (.int j) H Q) (Q (.bl (decide (i = j))) H) := ⟨g_eqI⟩
theorem g_neI (h : Q (.bl (!decide (i = j))) H) : rNe (.int i) (.int j) H Q := ⟨rfl, by rw [show decide (V.int i = V.int j) = decide (i = j) by simp]; exact h⟩
instance i_neI : St (rNe (.int i) (.int j) H Q) (Q (.bl (!decide (i = j))) H) := ⟨g_neI⟩
theorem g_eqS {a b : Str} (h : Q (.bl (decide (a = b))) H) : rEq (.str a) (.str b) H Q := ⟨rfl, by rw [show decide (V.str a = V.str b) = decide (a = b) by simp]; exact h⟩
instance i_eqS {a b : Str} : St (rEq (.str a) (.str b) H Q) (Q (.bl (decide (a = b))) H) := ⟨g_eqS⟩
theorem g_neS {a b : Str} (h : Q (.bl (!decide (a = b))) H) : rNe (.str a) (.str b) H Q := ⟨rfl, by rw [show decide (V.str a = V.str b) = decide (a = b) by simp]; exact h⟩
instance i_neS {a b : Str} : St (rNe (.str a) (.str b) H Q) (Q (.bl (!decide (a = b))) H) := ⟨g_neS⟩
theorem g_ixL {p : Addr} {xs : List V} (e : H p = some (.lst xs)) (a : atI xs i = some v) (h : Q v H) : rIxL K (.ref p) (.int i) H Q := ⟨p, xs, i, v, rfl, rfl, SqL.of e, a, h⟩
theorem g_ixT {p : Addr} {xs : List V} (e : H p = some (.tup xs)) (a : atI xs i = some v) (h : Q v H) : rIxT K (.ref p) (.int i) H Q := ⟨p, xs, i, v, rfl, rfl, SqT.of e, a, h⟩
def kHp (R : L2.St → Hp → Prop) (σ : L2.St) : Hp → Prop := fun H3 => R σ H3
def kS1 (ti : TE) (s : TSet) (v : V) (σ : L2.St) (R : L2.St → Hp → Prop) : VK := fun o H1 => ti σ H1 fun i H2 => s o i v H2 fun H3 => R σ H3
def kS2 (s : TSet) (o v : V) (σ : L2.St) (R : L2.St → Hp → Prop) : VK := fun i H2 => s o i v H2 (kHp R σ)
theorem g_sub {to ti : TE} {s : TSet} {R : L2.St → Hp → Prop} (h : to σ H (kS1 ti s v σ R)) : gSub to ti s v σ H R := h
instance i_sub {to ti : TE} {s : TSet} {R : L2.St → Hp → Prop} : St (gSub to ti s v σ H R) (to σ H (kS1 ti s v σ R)) := ⟨g_sub⟩
theorem g_kS1 {ti : TE} {s : TSet} {R : L2.St → Hp → Prop} (h : ti σ H (kS2 s x v σ R)) : kS1 ti s v σ R x H := h
instance i_kS1 {ti : TE} {s : TSet} {R : L2.St → Hp → Prop} : St (kS1 ti s v σ R x H) (ti σ H (kS2 s x v σ R)) := ⟨g_kS1⟩
theorem g_kS2 {s : TSet} {R : L2.St → Hp → Prop} (h : s x y v H (kHp R σ)) : kS2 s x v σ R y H := h
instance i_kS2 {s : TSet} {R : L2.St → Hp → Prop} : St (kS2 s x v σ R y H) (s x y v H (kHp R σ)) := ⟨g_kS2⟩
theorem g_kHp {R : L2.St → Hp → Prop} (h : R σ H) : kHp R σ H := h
instance i_kHp {R : L2.St → Hp → Prop} : St (kHp R σ H) (R σ H) := ⟨g_kHp⟩
theorem g_setL {p : Addr} {xs : List V} {n : Nat} {R : Hp → Prop} (e : H p = some (.lst xs)) (a : ixN xs.length i = some n) (h : R (upd H p (.lst (xs.set n v)))) : rSetL (.ref p) (.int i) v H R := ⟨p, xs, i, n, rfl, rfl, e, a, h⟩
theorem g_setL0 {p : Addr} {a : V} {r : List V} {R : Hp → Prop} (e : H p = some (.lst (a :: r))) (h : R (upd H p (.lst (v :: r)))) : rSetL (.ref p) (.int 0) v H R := g_setL e (n := 0) (ixN_of rfl (by simp)) h
theorem g_setL1 {p : Addr} {a b : V} {r : List V} {R : Hp → Prop} (e : H p = some (.lst (a :: b :: r))) (h : R (upd H p (.lst (a :: v :: r)))) : rSetL (.ref p) (.int 1) v H R := g_setL e (n := 1) (ixN_of rfl (by simp)) h
def kBM (K : PySem.W.Frag) (T : String) (r : V → List V → Hp → VK → Prop) (ta : TA) (σ : L2.St) (Q : VK) : VK := fun x H1 => tyV K T x H1 ∧ ta σ H1 fun xs H2 => r x xs H2 Q
def kBM2 (r : V → List V → Hp → VK → Prop) (x : V) (Q : VK) : LK := fun xs H2 => r x xs H2 Q
def kBM0 (K : PySem.W.Frag) (T : String) (r : V → List V → Hp → VK → Prop) (Q : VK) : VK := fun x H1 => tyV K T x H1 ∧ r x [] H1 Q
theorem g_bm {T : String} {r : V → List V → Hp → VK → Prop} (h : te σ H (kBM K T r ta σ Q)) : tBM K T r te ta σ H Q := h
instance i_bm {T : String} {r : V → List V → Hp → VK → Prop} : St (tBM K T r te ta σ H Q) (te σ H (kBM K T r ta σ Q)) := ⟨g_bm⟩
theorem g_bm0 {T : String} {r : V → List V → Hp → VK → Prop} (h : te σ H (kBM0 K T r Q)) : tBM0 K T r te σ H Q := h
instance i_bm0 {T : String} {r : V → List V → Hp → VK → Prop} : St (tBM0 K T r te σ H Q) (te σ H (kBM0 K T r Q)) := ⟨g_bm0⟩
theorem g_kBMl {r : V → List V → Hp → VK → Prop} {p : Addr} {xs : List V} (e : H p = some (.lst xs)) (h : ta σ H (kBM2 r (.ref p) Q)) : kBM K "list" r ta σ Q (.ref p) H := ⟨.inl ⟨rfl, xs, SqL.of e⟩, h⟩
theorem g_kBM0l {r : V → List V → Hp → VK → Prop} {p : Addr} {xs : List V} (e : H p = some (.lst xs)) (h : r (.ref p) [] H Q) : kBM0 K "list" r Q (.ref p) H := ⟨.inl ⟨rfl, xs, SqL.of e⟩, h⟩
theorem g_kBM2 {r : V → List V → Hp → VK → Prop} {xs : List V} (h : r x xs H Q) : kBM2 r x Q xs H := h
instance i_kBM2 {r : V → List V → Hp → VK → Prop} {xs : List V} : St (kBM2 r x Q xs H) (r x xs H Q) := ⟨g_kBM2⟩
theorem g_append {p : Addr} {xs : List V} (e : H p = some (.lst xs)) (s : xs.length < sizeLine) (h : Q .non (upd H p (.lst (xs ++ [y])))) : rAppend (.ref p) [y] H Q := ⟨p, xs, y, rfl, rfl, e, s, h⟩
theorem g_popAt {p : Addr} {xs : List V} {n : Nat} (e : H p = some (.lst xs)) (b : i = (n : Int)) (hn : xs[n]? = some y) (hz : xs.length ≤ 1000000) (h : Q y (upd H p (.lst (xs.eraseIdx n)))) : rPopAt (.ref p) [.int i] H Q := by
  have hl := (List.getElem?_eq_some_iff.mp hn).1
  refine ⟨p, xs, i, n, y, rfl, rfl, e, by omega, by omega, ?_, hn, h⟩
  subst b
  unfold seqIndex?
  have hn0 : ¬ (n : Int) < 0 := by omega
  simp [hl, hn0]
def rLn (K : PySem.W.Frag) : List V → Hp → VK → Prop := fun xs H Q => ∃ p ys, xs = [.ref p] ∧ (SqL K H p ys ∨ SqT K H p ys) ∧ Q (.int ys.length) H
theorem cr_len : CallR X (.builtin "len") (rLn X.K) := call_len_seq
theorem g_len {p : Addr} {xs : List V} (e : H p = some (.lst xs)) (h : Q (.int (xs.length : Int)) H) : rLn K [.ref p] H Q := ⟨p, xs, rfl, .inl (SqL.of e), h⟩
theorem g_lenT {p : Addr} {xs : List V} (e : H p = some (.tup xs)) (h : Q (.int (xs.length : Int)) H) : rLn K [.ref p] H Q := ⟨p, xs, rfl, .inr (SqT.of e), h⟩
def rLo (K : PySem.W.Frag) : List V → Hp → VK → Prop := fun xs H Q => ∃ p ys, xs = [.ref p] ∧ (SqL K H p ys ∨ SqT K H p ys) ∧ ∀ l, H l = none → Q (.ref l) (upd H l (.lst ys))
theorem cr_list : CallR X (.type "list") (rLo X.K) := call_list_of
theorem g_list {p : Addr} {xs : List V} (e : H p = some (.lst xs)) (h : ∀ l, H l = none → Q (.ref l) (upd H l (.lst xs))) : rLo K [.ref p] H Q := ⟨p, xs, rfl, .inl (SqL.of e), h⟩
def rIn1 : List V → Hp → VK → Prop := fun xs H Q => (∃ i, xs = [.int i] ∧ Q (.int i) H) ∨ ∃ k, xs = [.bl k] ∧ Q (.int (if k then 1 else 0)) H
theorem cr_int : CallR X (.type "int") rIn1 := call_int1
theorem g_int1 (h : Q (.int i) H) : rIn1 [.int i] H Q := .inl ⟨i, rfl, h⟩
instance i_int1 : St (rIn1 [.int i] H Q) (Q (.int i) H) := ⟨g_int1⟩
theorem g_intB {b : Bool} (h : Q (.int (if b then 1 else 0)) H) : rIn1 [.bl b] H Q := .inr ⟨b, rfl, h⟩
instance i_intB {b : Bool} : St (rIn1 [.bl b] H Q) (Q (.int (if b then 1 else 0)) H) := ⟨g_intB⟩
def rMn : List V → Hp → VK → Prop := fun xs H Q => ∃ i j, xs = [.int i, .int j] ∧ Q (.int (if j < i then j else i)) H
def rMx : List V → Hp → VK → Prop := fun xs H Q => ∃ i j, xs = [.int i, .int j] ∧ Q (.int (if j > i then j else i)) H
theorem cr_min2 (hc : X.calm = true) : CallR X (.builtin "min") rMn := call_min2 hc
theorem cr_max2 (hc : X.calm = true) : CallR X (.builtin "max") rMx := call_max2 hc
theorem g_min2 (h : Q (.int (if j < i then j else i)) H) : rMn [.int i, .int j] H Q := ⟨i, j, rfl, h⟩
instance i_min2 : St (rMn [.int i, .int j] H Q) (Q (.int (if j < i then j else i)) H) := ⟨g_min2⟩
theorem g_max2 (h : Q (.int (if j > i then j else i)) H) : rMx [.int i, .int j] H Q := ⟨i, j, rfl, h⟩
instance i_max2 : St (rMx [.int i, .int j] H Q) (Q (.int (if j > i then j else i)) H) := ⟨g_max2⟩
theorem g_neD {d e : PyData} (a : Dp K H x d) (b : Dp K H y e) (c : SeqAt.shaped d = true) (c' : SeqAt.shaped e = true) (h : Q (.bl (!PyData.eqv d e)) H) : rNeD K x y H Q := ⟨d, e, a, b, c, c', h⟩
theorem g_eqD {d e : PyData} (a : Dp K H x d) (b : Dp K H y e) (c : SeqAt.shaped d = true) (c' : SeqAt.shaped e = true) (h : Q (.bl (PyData.eqv d e)) H) : rEqD K x y H Q := ⟨d, e, a, b, c, c', h⟩
abbrev IK := Int → Int → Hp → Prop
def k1I (R : IK) : VK := fun x H1 => ∃ n, x = .int n ∧ R 0 n H1
def k2I (R : IK) (x : V) : VK := fun y H1 => ∃ i j, x = .int i ∧ y = .int j ∧ R i j H1
def k2J (R : IK) (tf : TE) (σ : L2.St) : VK := fun x H1 => tf σ H1 (k2I R x)
def kRg (Q : VK) : IK := fun a b H1 => RgOk a b ∧ ∀ q, H1 q = none → Q (.ref q) (upd H1 q (.lst (rgV a b)))
theorem g_inS {p : Addr} {xs : List V} (e : H p = some (.lst xs)) (f : flatV x = true) (a : xs.all flatV = true) (h : Q (.bl (inV x xs)) H) : rIn K false x (.ref p) H Q := ⟨p, xs, rfl, .inl (SqL.of e), f, a, h⟩
theorem g_niS {p : Addr} {xs : List V} (e : H p = some (.lst xs)) (f : flatV x = true) (a : xs.all flatV = true) (h : Q (.bl (!inV x xs)) H) : rIn K true x (.ref p) H Q := ⟨p, xs, rfl, .inl (SqL.of e), f, a, h⟩
theorem g_rg {ti : L2.St → Hp → IK → Prop} (h : ti σ H (kRg Q)) : tLstRg ti σ H Q := h
instance i_rg {ti : L2.St → Hp → IK → Prop} : St (tLstRg ti σ H Q) (ti σ H (kRg Q)) := ⟨g_rg⟩
theorem g_rg1 {R : IK} (h : te σ H (k1I R)) : tRg1 te σ H R := h
instance i_rg1 {R : IK} : St (tRg1 te σ H R) (te σ H (k1I R)) := ⟨g_rg1⟩
theorem g_rg2 {R : IK} (h : te σ H (k2J R tf σ)) : tRg2 te tf σ H R := h
instance i_rg2 {R : IK} : St (tRg2 te tf σ H R) (te σ H (k2J R tf σ)) := ⟨g_rg2⟩
theorem g_k1I {R : IK} (h : R 0 i H) : k1I R (.int i) H := ⟨i, rfl, h⟩
instance i_k1I {R : IK} : St (k1I R (.int i) H) (R 0 i H) := ⟨g_k1I⟩
theorem g_k2I {R : IK} (h : R i j H) : k2I R (.int i) (.int j) H := ⟨i, j, rfl, rfl, h⟩
instance i_k2I {R : IK} : St (k2I R (.int i) (.int j) H) (R i j H) := ⟨g_k2I⟩
theorem g_k2J {R : IK} (h : tf σ H (k2I R x)) : k2J R tf σ x H := h
instance i_k2J {R : IK} : St (k2J R tf σ x H) (tf σ H (k2I R x)) := ⟨g_k2J⟩
theorem g_kRg (h1 : -(2 ^ 20) ≤ i ∧ i < 2 ^ 20 ∧ j < 2 ^ 20 ∧ -(2 ^ 20) ≤ j) (h : ∀ q, H q = none → Q (.ref q) (upd H q (.lst (rgV i j)))) : kRg Q i j H := ⟨⟨by omega, by omega, by omega, by omega, by omega⟩, h⟩
theorem g_while {tb : TS} (Pv : L2.St → Hp → Prop) (μ : L2.St → Hp → Nat) (h0 : Pv σ H)
    (hs : ∀ σ H, Pv σ H → tt σ H (kIf (fun H1 => tb ⟨fun σ' H' => Pv σ' H' ∧ μ σ' H' < μ σ H, D.rt, D.nx, fun σ' H' => Pv σ' H' ∧ μ σ' H' < μ σ H⟩ σ H1) (D.nx σ)))
    (mono : ∀ σ H Q Q', (∀ b H1, Q b H1 → Q' b H1) → tt σ H Q → tt σ H Q') : tWhile tt tb D σ H := while_by Pv μ h0 hs mono
abbrev JK := It → Hp → Prop
def kIL (K : PySem.W.Frag) (R : JK) : VK := fun x H1 => ∃ a, x = .ref a ∧ (∃ xs, SqL K H1 a xs) ∧ R (Itl K a) H1
theorem g_iL {R : JK} (h : te σ H (kIL K R)) : iList K te σ H R := h
instance i_iL {R : JK} : St (iList K te σ H R) (te σ H (kIL K R)) := ⟨g_iL⟩
theorem g_kIL {R : JK} {p : Addr} {xs : List V} (e : H p = some (.lst xs)) (h : R (Itl K p) H) : kIL K R (.ref p) H := ⟨p, rfl, ⟨xs, SqL.of e⟩, h⟩
theorem g_kILf {R : JK} {p : Addr} {xs : List V} (e : SqL K H p xs) (h : R (Itl K p) H) : kIL K R (.ref p) H := ⟨p, rfl, ⟨xs, e⟩, h⟩
def kIR1 (R : JK) : LK := fun vs H1 => ∃ j : Int, vs = [.int j] ∧ -(2 ^ 62) ≤ j ∧ j < 2 ^ 62 ∧ R (Itr 0 j.toNat) H1
def kIR2 (R : JK) : LK := fun vs H1 => ∃ i j : Int, vs = [.int i, .int j] ∧ (-(2 ^ 62) ≤ i ∧ i < 2 ^ 62 ∧ -(2 ^ 62) ≤ j ∧ j < 2 ^ 62) ∧ R (Itr i (j - i).toNat) H1
theorem g_iR1 {R : JK} (h : ta σ H (kIR1 R)) : iRng1 ta σ H R := h
instance i_iR1 {R : JK} : St (iRng1 ta σ H R) (ta σ H (kIR1 R)) := ⟨g_iR1⟩
theorem g_iR2 {R : JK} (h : ta σ H (kIR2 R)) : iRng2 ta σ H R := h
instance i_iR2 {R : JK} : St (iRng2 ta σ H R) (ta σ H (kIR2 R)) := ⟨g_iR2⟩
theorem g_kIR1 {R : JK} (h1 : -(2 ^ 62) ≤ j ∧ j < 2 ^ 62) (h : R (Itr 0 j.toNat) H) : kIR1 R [.int j] H := ⟨j, rfl, h1.1, h1.2, h⟩
theorem g_kIR2 {R : JK} (h1 : -(2 ^ 62) ≤ i ∧ i < 2 ^ 62 ∧ -(2 ^ 62) ≤ j ∧ j < 2 ^ 62) (h : R (Itr i (j - i).toNat) H) : kIR2 R [.int i, .int j] H := ⟨i, j, rfl, h1, h⟩
def kFor (g : TG) (tb : TS) (D : Ends) (σ : L2.St) : JK := fun J H1 => ∃ W : Nat → Nat → L2.St → Hp → Prop, (∃ m, W 0 m σ H1) ∧ ∀ i m σ H, W i m σ H →
  (J.stop i H ∧ D.nx σ H) ∨ (J.go i H ∧ ∃ N : L2.St → Hp → Prop, (∀ σ' H', N σ' H' → ∃ m', m' < m ∧ W (i + 1) m' σ' H') ∧ ∀ x H', J.yld i H x H' → g x σ H' fun σ2 H2 => tb { D with nx := N, ct := N, bk := D.nx } σ2 H2)
theorem g_for {wi : TI} {tb : TS} (h : wi σ H (kFor g tb D σ)) : tFor wi g tb D σ H := h
instance i_for {wi : TI} {tb : TS} : St (tFor wi g tb D σ H) (wi σ H (kFor g tb D σ)) := ⟨g_for⟩
theorem g_forL {tb : TS} {p : Addr} {xs : List V} (Pv : Nat → L2.St → Hp → Prop) (h0 : Pv 0 σ H) (hl : ∀ i σ H, i ≤ xs.length → Pv i σ H → SqL K H p xs)
    (hs : ∀ i x σ H, xs[i]? = some x → Pv i σ H → g x σ H (tb ⟨Pv (i + 1), D.rt, D.nx, Pv (i + 1)⟩)) (hd : ∀ σ H, Pv xs.length σ H → D.nx σ H) : kFor g tb D σ (Itl K p) H := for_list Pv h0 hl hs hd
theorem g_forR {tb : TS} {lo : Int} {n : Nat} (Pv : Nat → L2.St → Hp → Prop) (h0 : Pv 0 σ H)
    (hs : ∀ i σ H, i < n → Pv i σ H → g (.int (lo + i)) σ H (tb ⟨Pv (i + 1), D.rt, D.nx, Pv (i + 1)⟩)) (hd : ∀ σ H, Pv n σ H → D.nx σ H) : kFor g tb D σ (Itr lo n) H := for_range Pv h0 hs hd
/-- a power of whole numbers of any size, within 2 ^ 27 bits -/
theorem op_powG : OpR X (binaryOp .Pow) (rI (fun i j => 0 ≤ j ∧ (Builtin.Int.intBits i : Int) * j ≤ 2 ^ 27) fun i j => .int (i ^ j.toNat)) := opI fun _ _ _ _ _ _ _ hc q => PyProof.Rows.pow_int hc.1 hc.2 q
theorem g_name0 {R : L2.St → Hp → Prop} {b : Option V} {r : L2.St} (h : R (some v :: r) H) : gName 0 v (b :: r) H R := h
instance i_name0 {R : L2.St → Hp → Prop} {b : Option V} {r : L2.St} : St (gName 0 v (b :: r) H R) (R (some v :: r) H) := ⟨g_name0⟩
theorem g_var0 {r : L2.St} (h : Q v H) : tVar 0 (some v :: r) H Q := ⟨v, rfl, h⟩
instance i_var0 {r : L2.St} : St (tVar 0 (some v :: r) H Q) (Q v H) := ⟨g_var0⟩
theorem g_name1 {R : L2.St → Hp → Prop} {a0 : Option V} {b : Option V} {r : L2.St} (h : R (a0 :: some v :: r) H) : gName 1 v (a0 :: b :: r) H R := h
instance i_name1 {R : L2.St → Hp → Prop} {a0 : Option V} {b : Option V} {r : L2.St} : St (gName 1 v (a0 :: b :: r) H R) (R (a0 :: some v :: r) H) := ⟨g_name1⟩
theorem g_var1 {a0 : Option V} {r : L2.St} (h : Q v H) : tVar 1 (a0 :: some v :: r) H Q := ⟨v, rfl, h⟩
instance i_var1 {a0 : Option V} {r : L2.St} : St (tVar 1 (a0 :: some v :: r) H Q) (Q v H) := ⟨g_var1⟩
theorem g_name2 {R : L2.St → Hp → Prop} {a0 a1 : Option V} {b : Option V} {r : L2.St} (h : R (a0 :: a1 :: some v :: r) H) : gName 2 v (a0 :: a1 :: b :: r) H R := h
instance i_name2 {R : L2.St → Hp → Prop} {a0 a1 : Option V} {b : Option V} {r : L2.St} : St (gName 2 v (a0 :: a1 :: b :: r) H R) (R (a0 :: a1 :: some v :: r) H) := ⟨g_name2⟩
theorem g_var2 {a0 a1 : Option V} {r : L2.St} (h : Q v H) : tVar 2 (a0 :: a1 :: some v :: r) H Q := ⟨v, rfl, h⟩
instance i_var2 {a0 a1 : Option V} {r : L2.St} : St (tVar 2 (a0 :: a1 :: some v :: r) H Q) (Q v H) := ⟨g_var2⟩
theorem g_name3 {R : L2.St → Hp → Prop} {a0 a1 a2 : Option V} {b : Option V} {r : L2.St} (h : R (a0 :: a1 :: a2 :: some v :: r) H) : gName 3 v (a0 :: a1 :: a2 :: b :: r) H R := h
instance i_name3 {R : L2.St → Hp → Prop} {a0 a1 a2 : Option V} {b : Option V} {r : L2.St} : St (gName 3 v (a0 :: a1 :: a2 :: b :: r) H R) (R (a0 :: a1 :: a2 :: some v :: r) H) := ⟨g_name3⟩
theorem g_var3 {a0 a1 a2 : Option V} {r : L2.St} (h : Q v H) : tVar 3 (a0 :: a1 :: a2 :: some v :: r) H Q := ⟨v, rfl, h⟩
instance i_var3 {a0 a1 a2 : Option V} {r : L2.St} : St (tVar 3 (a0 :: a1 :: a2 :: some v :: r) H Q) (Q v H) := ⟨g_var3⟩
theorem g_name4 {R : L2.St → Hp → Prop} {a0 a1 a2 a3 : Option V} {b : Option V} {r : L2.St} (h : R (a0 :: a1 :: a2 :: a3 :: some v :: r) H) : gName 4 v (a0 :: a1 :: a2 :: a3 :: b :: r) H R := h
instance i_name4 {R : L2.St → Hp → Prop} {a0 a1 a2 a3 : Option V} {b : Option V} {r : L2.St} : St (gName 4 v (a0 :: a1 :: a2 :: a3 :: b :: r) H R) (R (a0 :: a1 :: a2 :: a3 :: some v :: r) H) := ⟨g_name4⟩
theorem g_var4 {a0 a1 a2 a3 : Option V} {r : L2.St} (h : Q v H) : tVar 4 (a0 :: a1 :: a2 :: a3 :: some v :: r) H Q := ⟨v, rfl, h⟩
instance i_var4 {a0 a1 a2 a3 : Option V} {r : L2.St} : St (tVar 4 (a0 :: a1 :: a2 :: a3 :: some v :: r) H Q) (Q v H) := ⟨g_var4⟩
theorem g_name5 {R : L2.St → Hp → Prop} {a0 a1 a2 a3 a4 : Option V} {b : Option V} {r : L2.St} (h : R (a0 :: a1 :: a2 :: a3 :: a4 :: some v :: r) H) : gName 5 v (a0 :: a1 :: a2 :: a3 :: a4 :: b :: r) H R := h
instance i_name5 {R : L2.St → Hp → Prop} {a0 a1 a2 a3 a4 : Option V} {b : Option V} {r : L2.St} : St (gName 5 v (a0 :: a1 :: a2 :: a3 :: a4 :: b :: r) H R) (R (a0 :: a1 :: a2 :: a3 :: a4 :: some v :: r) H) := ⟨g_name5⟩
theorem g_var5 {a0 a1 a2 a3 a4 : Option V} {r : L2.St} (h : Q v H) : tVar 5 (a0 :: a1 :: a2 :: a3 :: a4 :: some v :: r) H Q := ⟨v, rfl, h⟩
instance i_var5 {a0 a1 a2 a3 a4 : Option V} {r : L2.St} : St (tVar 5 (a0 :: a1 :: a2 :: a3 :: a4 :: some v :: r) H Q) (Q v H) := ⟨g_var5⟩
theorem g_name6 {R : L2.St → Hp → Prop} {a0 a1 a2 a3 a4 a5 : Option V} {b : Option V} {r : L2.St} (h : R (a0 :: a1 :: a2 :: a3 :: a4 :: a5 :: some v :: r) H) : gName 6 v (a0 :: a1 :: a2 :: a3 :: a4 :: a5 :: b :: r) H R := h
instance i_name6 {R : L2.St → Hp → Prop} {a0 a1 a2 a3 a4 a5 : Option V} {b : Option V} {r : L2.St} : St (gName 6 v (a0 :: a1 :: a2 :: a3 :: a4 :: a5 :: b :: r) H R) (R (a0 :: a1 :: a2 :: a3 :: a4 :: a5 :: some v :: r) H) := ⟨g_name6⟩
theorem g_var6 {a0 a1 a2 a3 a4 a5 : Option V} {r : L2.St} (h : Q v H) : tVar 6 (a0 :: a1 :: a2 :: a3 :: a4 :: a5 :: some v :: r) H Q := ⟨v, rfl, h⟩
instance i_var6 {a0 a1 a2 a3 a4 a5 : Option V} {r : L2.St} : St (tVar 6 (a0 :: a1 :: a2 :: a3 :: a4 :: a5 :: some v :: r) H Q) (Q v H) := ⟨g_var6⟩
theorem g_name7 {R : L2.St → Hp → Prop} {a0 a1 a2 a3 a4 a5 a6 : Option V} {b : Option V} {r : L2.St} (h : R (a0 :: a1 :: a2 :: a3 :: a4 :: a5 :: a6 :: some v :: r) H) : gName 7 v (a0 :: a1 :: a2 :: a3 :: a4 :: a5 :: a6 :: b :: r) H R := h
instance i_name7 {R : L2.St → Hp → Prop} {a0 a1 a2 a3 a4 a5 a6 : Option V} {b : Option V} {r : L2.St} : St (gName 7 v (a0 :: a1 :: a2 :: a3 :: a4 :: a5 :: a6 :: b :: r) H R) (R (a0 :: a1 :: a2 :: a3 :: a4 :: a5 :: a6 :: some v :: r) H) := ⟨g_name7⟩
theorem g_var7 {a0 a1 a2 a3 a4 a5 a6 : Option V} {r : L2.St} (h : Q v H) : tVar 7 (a0 :: a1 :: a2 :: a3 :: a4 :: a5 :: a6 :: some v :: r) H Q := ⟨v, rfl, h⟩
instance i_var7 {a0 a1 a2 a3 a4 a5 a6 : Option V} {r : L2.St} : St (tVar 7 (a0 :: a1 :: a2 :: a3 :: a4 :: a5 :: a6 :: some v :: r) H Q) (Q v H) := ⟨g_var7⟩
theorem g_name8 {R : L2.St → Hp → Prop} {a0 a1 a2 a3 a4 a5 a6 a7 : Option V} {b : Option V} {r : L2.St} (h : R (a0 :: a1 :: a2 :: a3 :: a4 :: a5 :: a6 :: a7 :: some v :: r) H) : gName 8 v (a0 :: a1 :: a2 :: a3 :: a4 :: a5 :: a6 :: a7 :: b :: r) H R := h
instance i_name8 {R : L2.St → Hp → Prop} {a0 a1 a2 a3 a4 a5 a6 a7 : Option V} {b : Option V} {r : L2.St} : St (gName 8 v (a0 :: a1 :: a2 :: a3 :: a4 :: a5 :: a6 :: a7 :: b :: r) H R) (R (a0 :: a1 :: a2 :: a3 :: a4 :: a5 :: a6 :: a7 :: some v :: r) H) := ⟨g_name8⟩
theorem g_var8 {a0 a1 a2 a3 a4 a5 a6 a7 : Option V} {r : L2.St} (h : Q v H) : tVar 8 (a0 :: a1 :: a2 :: a3 :: a4 :: a5 :: a6 :: a7 :: some v :: r) H Q := ⟨v, rfl, h⟩
instance i_var8 {a0 a1 a2 a3 a4 a5 a6 a7 : Option V} {r : L2.St} : St (tVar 8 (a0 :: a1 :: a2 :: a3 :: a4 :: a5 :: a6 :: a7 :: some v :: r) H Q) (Q v H) := ⟨g_var8⟩
theorem g_name9 {R : L2.St → Hp → Prop} {a0 a1 a2 a3 a4 a5 a6 a7 a8 : Option V} {b : Option V} {r : L2.St} (h : R (a0 :: a1 :: a2 :: a3 :: a4 :: a5 :: a6 :: a7 :: a8 :: some v :: r) H) : gName 9 v (a0 :: a1 :: a2 :: a3 :: a4 :: a5 :: a6 :: a7 :: a8 :: b :: r) H R := h
instance i_name9 {R : L2.St → Hp → Prop} {a0 a1 a2 a3 a4 a5 a6 a7 a8 : Option V} {b : Option V} {r : L2.St} : St (gName 9 v (a0 :: a1 :: a2 :: a3 :: a4 :: a5 :: a6 :: a7 :: a8 :: b :: r) H R) (R (a0 :: a1 :: a2 :: a3 :: a4 :: a5 :: a6 :: a7 :: a8 :: some v :: r) H) := ⟨g_name9⟩
theorem g_var9 {a0 a1 a2 a3 a4 a5 a6 a7 a8 : Option V} {r : L2.St} (h : Q v H) : tVar 9 (a0 :: a1 :: a2 :: a3 :: a4 :: a5 :: a6 :: a7 :: a8 :: some v :: r) H Q := ⟨v, rfl, h⟩
instance i_var9 {a0 a1 a2 a3 a4 a5 a6 a7 a8 : Option V} {r : L2.St} : St (tVar 9 (a0 :: a1 :: a2 :: a3 :: a4 :: a5 :: a6 :: a7 :: a8 :: some v :: r) H Q) (Q v H) := ⟨g_var9⟩
theorem g_name10 {R : L2.St → Hp → Prop} {a0 a1 a2 a3 a4 a5 a6 a7 a8 a9 : Option V} {b : Option V} {r : L2.St} (h : R (a0 :: a1 :: a2 :: a3 :: a4 :: a5 :: a6 :: a7 :: a8 :: a9 :: some v :: r) H) : gName 10 v (a0 :: a1 :: a2 :: a3 :: a4 :: a5 :: a6 :: a7 :: a8 :: a9 :: b :: r) H R := h
instance i_name10 {R : L2.St → Hp → Prop} {a0 a1 a2 a3 a4 a5 a6 a7 a8 a9 : Option V} {b : Option V} {r : L2.St} : St (gName 10 v (a0 :: a1 :: a2 :: a3 :: a4 :: a5 :: a6 :: a7 :: a8 :: a9 :: b :: r) H R) (R (a0 :: a1 :: a2 :: a3 :: a4 :: a5 :: a6 :: a7 :: a8 :: a9 :: some v :: r) H) := ⟨g_name10⟩
theorem g_var10 {a0 a1 a2 a3 a4 a5 a6 a7 a8 a9 : Option V} {r : L2.St} (h : Q v H) : tVar 10 (a0 :: a1 :: a2 :: a3 :: a4 :: a5 :: a6 :: a7 :: a8 :: a9 :: some v :: r) H Q := ⟨v, rfl, h⟩
instance i_var10 {a0 a1 a2 a3 a4 a5 a6 a7 a8 a9 : Option V} {r : L2.St} : St (tVar 10 (a0 :: a1 :: a2 :: a3 :: a4 :: a5 :: a6 :: a7 :: a8 :: a9 :: some v :: r) H Q) (Q v H) := ⟨g_var10⟩
theorem g_name11 {R : L2.St → Hp → Prop} {a0 a1 a2 a3 a4 a5 a6 a7 a8 a9 a10 : Option V} {b : Option V} {r : L2.St} (h : R (a0 :: a1 :: a2 :: a3 :: a4 :: a5 :: a6 :: a7 :: a8 :: a9 :: a10 :: some v :: r) H) : gName 11 v (a0 :: a1 :: a2 :: a3 :: a4 :: a5 :: a6 :: a7 :: a8 :: a9 :: a10 :: b :: r) H R := h
instance i_name11 {R : L2.St → Hp → Prop} {a0 a1 a2 a3 a4 a5 a6 a7 a8 a9 a10 : Option V} {b : Option V} {r : L2.St} : St (gName 11 v (a0 :: a1 :: a2 :: a3 :: a4 :: a5 :: a6 :: a7 :: a8 :: a9 :: a10 :: b :: r) H R) (R (a0 :: a1 :: a2 :: a3 :: a4 :: a5 :: a6 :: a7 :: a8 :: a9 :: a10 :: some v :: r) H) := ⟨g_name11⟩
theorem g_var11 {a0 a1 a2 a3 a4 a5 a6 a7 a8 a9 a10 : Option V} {r : L2.St} (h : Q v H) : tVar 11 (a0 :: a1 :: a2 :: a3 :: a4 :: a5 :: a6 :: a7 :: a8 :: a9 :: a10 :: some v :: r) H Q := ⟨v, rfl, h⟩
instance i_var11 {a0 a1 a2 a3 a4 a5 a6 a7 a8 a9 a10 : Option V} {r : L2.St} : St (tVar 11 (a0 :: a1 :: a2 :: a3 :: a4 :: a5 :: a6 :: a7 :: a8 :: a9 :: a10 :: some v :: r) H Q) (Q v H) := ⟨g_var11⟩
theorem g_name12 {R : L2.St → Hp → Prop} {a0 a1 a2 a3 a4 a5 a6 a7 a8 a9 a10 a11 : Option V} {b : Option V} {r : L2.St} (h : R (a0 :: a1 :: a2 :: a3 :: a4 :: a5 :: a6 :: a7 :: a8 :: a9 :: a10 :: a11 :: some v :: r) H) : gName 12 v (a0 :: a1 :: a2 :: a3 :: a4 :: a5 :: a6 :: a7 :: a8 :: a9 :: a10 :: a11 :: b :: r) H R := h
instance i_name12 {R : L2.St → Hp → Prop} {a0 a1 a2 a3 a4 a5 a6 a7 a8 a9 a10 a11 : Option V} {b : Option V} {r : L2.St} : St (gName 12 v (a0 :: a1 :: a2 :: a3 :: a4 :: a5 :: a6 :: a7 :: a8 :: a9 :: a10 :: a11 :: b :: r) H R) (R (a0 :: a1 :: a2 :: a3 :: a4 :: a5 :: a6 :: a7 :: a8 :: a9 :: a10 :: a11 :: some v :: r) H) := ⟨g_name12⟩
theorem g_var12 {a0 a1 a2 a3 a4 a5 a6 a7 a8 a9 a10 a11 : Option V} {r : L2.St} (h : Q v H) : tVar 12 (a0 :: a1 :: a2 :: a3 :: a4 :: a5 :: a6 :: a7 :: a8 :: a9 :: a10 :: a11 :: some v :: r) H Q := ⟨v, rfl, h⟩
instance i_var12 {a0 a1 a2 a3 a4 a5 a6 a7 a8 a9 a10 a11 : Option V} {r : L2.St} : St (tVar 12 (a0 :: a1 :: a2 :: a3 :: a4 :: a5 :: a6 :: a7 :: a8 :: a9 :: a10 :: a11 :: some v :: r) H Q) (Q v H) := ⟨g_var12⟩
theorem g_name13 {R : L2.St → Hp → Prop} {a0 a1 a2 a3 a4 a5 a6 a7 a8 a9 a10 a11 a12 : Option V} {b : Option V} {r : L2.St} (h : R (a0 :: a1 :: a2 :: a3 :: a4 :: a5 :: a6 :: a7 :: a8 :: a9 :: a10 :: a11 :: a12 :: some v :: r) H) : gName 13 v (a0 :: a1 :: a2 :: a3 :: a4 :: a5 :: a6 :: a7 :: a8 :: a9 :: a10 :: a11 :: a12 :: b :: r) H R := h
instance i_name13 {R : L2.St → Hp → Prop} {a0 a1 a2 a3 a4 a5 a6 a7 a8 a9 a10 a11 a12 : Option V} {b : Option V} {r : L2.St} : St (gName 13 v (a0 :: a1 :: a2 :: a3 :: a4 :: a5 :: a6 :: a7 :: a8 :: a9 :: a10 :: a11 :: a12 :: b :: r) H R) (R (a0 :: a1 :: a2 :: a3 :: a4 :: a5 :: a6 :: a7 :: a8 :: a9 :: a10 :: a11 :: a12 :: some v :: r) H) := ⟨g_name13⟩
theorem g_var13 {a0 a1 a2 a3 a4 a5 a6 a7 a8 a9 a10 a11 a12 : Option V} {r : L2.St} (h : Q v H) : tVar 13 (a0 :: a1 :: a2 :: a3 :: a4 :: a5 :: a6 :: a7 :: a8 :: a9 :: a10 :: a11 :: a12 :: some v :: r) H Q := ⟨v, rfl, h⟩
instance i_var13 {a0 a1 a2 a3 a4 a5 a6 a7 a8 a9 a10 a11 a12 : Option V} {r : L2.St} : St (tVar 13 (a0 :: a1 :: a2 :: a3 :: a4 :: a5 :: a6 :: a7 :: a8 :: a9 :: a10 :: a11 :: a12 :: some v :: r) H Q) (Q v H) := ⟨g_var13⟩
theorem g_name14 {R : L2.St → Hp → Prop} {a0 a1 a2 a3 a4 a5 a6 a7 a8 a9 a10 a11 a12 a13 : Option V} {b : Option V} {r : L2.St} (h : R (a0 :: a1 :: a2 :: a3 :: a4 :: a5 :: a6 :: a7 :: a8 :: a9 :: a10 :: a11 :: a12 :: a13 :: some v :: r) H) : gName 14 v (a0 :: a1 :: a2 :: a3 :: a4 :: a5 :: a6 :: a7 :: a8 :: a9 :: a10 :: a11 :: a12 :: a13 :: b :: r) H R := h
instance i_name14 {R : L2.St → Hp → Prop} {a0 a1 a2 a3 a4 a5 a6 a7 a8 a9 a10 a11 a12 a13 : Option V} {b : Option V} {r : L2.St} : St (gName 14 v (a0 :: a1 :: a2 :: a3 :: a4 :: a5 :: a6 :: a7 :: a8 :: a9 :: a10 :: a11 :: a12 :: a13 :: b :: r) H R) (R (a0 :: a1 :: a2 :: a3 :: a4 :: a5 :: a6 :: a7 :: a8 :: a9 :: a10 :: a11 :: a12 :: a13 :: some v :: r) H) := ⟨g_name14⟩
theorem g_var14 {a0 a1 a2 a3 a4 a5 a6 a7 a8 a9 a10 a11 a12 a13 : Option V} {r : L2.St} (h : Q v H) : tVar 14 (a0 :: a1 :: a2 :: a3 :: a4 :: a5 :: a6 :: a7 :: a8 :: a9 :: a10 :: a11 :: a12 :: a13 :: some v :: r) H Q := ⟨v, rfl, h⟩
instance i_var14 {a0 a1 a2 a3 a4 a5 a6 a7 a8 a9 a10 a11 a12 a13 : Option V} {r : L2.St} : St (tVar 14 (a0 :: a1 :: a2 :: a3 :: a4 :: a5 :: a6 :: a7 :: a8 :: a9 :: a10 :: a11 :: a12 :: a13 :: some v :: r) H Q) (Q v H) := ⟨g_var14⟩
theorem g_name15 {R : L2.St → Hp → Prop} {a0 a1 a2 a3 a4 a5 a6 a7 a8 a9 a10 a11 a12 a13 a14 : Option V} {b : Option V} {r : L2.St} (h : R (a0 :: a1 :: a2 :: a3 :: a4 :: a5 :: a6 :: a7 :: a8 :: a9 :: a10 :: a11 :: a12 :: a13 :: a14 :: some v :: r) H) : gName 15 v (a0 :: a1 :: a2 :: a3 :: a4 :: a5 :: a6 :: a7 :: a8 :: a9 :: a10 :: a11 :: a12 :: a13 :: a14 :: b :: r) H R := h
instance i_name15 {R : L2.St → Hp → Prop} {a0 a1 a2 a3 a4 a5 a6 a7 a8 a9 a10 a11 a12 a13 a14 : Option V} {b : Option V} {r : L2.St} : St (gName 15 v (a0 :: a1 :: a2 :: a3 :: a4 :: a5 :: a6 :: a7 :: a8 :: a9 :: a10 :: a11 :: a12 :: a13 :: a14 :: b :: r) H R) (R (a0 :: a1 :: a2 :: a3 :: a4 :: a5 :: a6 :: a7 :: a8 :: a9 :: a10 :: a11 :: a12 :: a13 :: a14 :: some v :: r) H) := ⟨g_name15⟩
theorem g_var15 {a0 a1 a2 a3 a4 a5 a6 a7 a8 a9 a10 a11 a12 a13 a14 : Option V} {r : L2.St} (h : Q v H) : tVar 15 (a0 :: a1 :: a2 :: a3 :: a4 :: a5 :: a6 :: a7 :: a8 :: a9 :: a10 :: a11 :: a12 :: a13 :: a14 :: some v :: r) H Q := ⟨v, rfl, h⟩
instance i_var15 {a0 a1 a2 a3 a4 a5 a6 a7 a8 a9 a10 a11 a12 a13 a14 : Option V} {r : L2.St} : St (tVar 15 (a0 :: a1 :: a2 :: a3 :: a4 :: a5 :: a6 :: a7 :: a8 :: a9 :: a10 :: a11 :: a12 :: a13 :: a14 :: some v :: r) H Q) (Q v H) := ⟨g_var15⟩
theorem g_name16 {R : L2.St → Hp → Prop} {a0 a1 a2 a3 a4 a5 a6 a7 a8 a9 a10 a11 a12 a13 a14 a15 : Option V} {b : Option V} {r : L2.St} (h : R (a0 :: a1 :: a2 :: a3 :: a4 :: a5 :: a6 :: a7 :: a8 :: a9 :: a10 :: a11 :: a12 :: a13 :: a14 :: a15 :: some v :: r) H) : gName 16 v (a0 :: a1 :: a2 :: a3 :: a4 :: a5 :: a6 :: a7 :: a8 :: a9 :: a10 :: a11 :: a12 :: a13 :: a14 :: a15 :: b :: r) H R := h
instance i_name16 {R : L2.St → Hp → Prop} {a0 a1 a2 a3 a4 a5 a6 a7 a8 a9 a10 a11 a12 a13 a14 a15 : Option V} {b : Option V} {r : L2.St} : St (gName 16 v (a0 :: a1 :: a2 :: a3 :: a4 :: a5 :: a6 :: a7 :: a8 :: a9 :: a10 :: a11 :: a12 :: a13 :: a14 :: a15 :: b :: r) H R) (R (a0 :: a1 :: a2 :: a3 :: a4 :: a5 :: a6 :: a7 :: a8 :: a9 :: a10 :: a11 :: a12 :: a13 :: a14 :: a15 :: some v :: r) H) := ⟨g_name16⟩
theorem g_var16 {a0 a1 a2 a3 a4 a5 a6 a7 a8 a9 a10 a11 a12 a13 a14 a15 : Option V} {r : L2.St} (h : Q v H) : tVar 16 (a0 :: a1 :: a2 :: a3 :: a4 :: a5 :: a6 :: a7 :: a8 :: a9 :: a10 :: a11 :: a12 :: a13 :: a14 :: a15 :: some v :: r) H Q := ⟨v, rfl, h⟩
instance i_var16 {a0 a1 a2 a3 a4 a5 a6 a7 a8 a9 a10 a11 a12 a13 a14 a15 : Option V} {r : L2.St} : St (tVar 16 (a0 :: a1 :: a2 :: a3 :: a4 :: a5 :: a6 :: a7 :: a8 :: a9 :: a10 :: a11 :: a12 :: a13 :: a14 :: a15 :: some v :: r) H Q) (Q v H) := ⟨g_var16⟩
theorem g_name17 {R : L2.St → Hp → Prop} {a0 a1 a2 a3 a4 a5 a6 a7 a8 a9 a10 a11 a12 a13 a14 a15 a16 : Option V} {b : Option V} {r : L2.St} (h : R (a0 :: a1 :: a2 :: a3 :: a4 :: a5 :: a6 :: a7 :: a8 :: a9 :: a10 :: a11 :: a12 :: a13 :: a14 :: a15 :: a16 :: some v :: r) H) : gName 17 v (a0 :: a1 :: a2 :: a3 :: a4 :: a5 :: a6 :: a7 :: a8 :: a9 :: a10 :: a11 :: a12 :: a13 :: a14 :: a15 :: a16 :: b :: r) H R := h
instance i_name17 {R : L2.St → Hp → Prop} {a0 a1 a2 a3 a4 a5 a6 a7 a8 a9 a10 a11 a12 a13 a14 a15 a16 : Option V} {b : Option V} {r : L2.St} : St (gName 17 v (a0 :: a1 :: a2 :: a3 :: a4 :: a5 :: a6 :: a7 :: a8 :: a9 :: a10 :: a11 :: a12 :: a13 :: a14 :: a15 :: a16 :: b :: r) H R) (R (a0 :: a1 :: a2 :: a3 :: a4 :: a5 :: a6 :: a7 :: a8 :: a9 :: a10 :: a11 :: a12 :: a13 :: a14 :: a15 :: a16 :: some v :: r) H) := ⟨g_name17⟩
theorem g_var17 {a0 a1 a2 a3 a4 a5 a6 a7 a8 a9 a10 a11 a12 a13 a14 a15 a16 : Option V} {r : L2.St} (h : Q v H) : tVar 17 (a0 :: a1 :: a2 :: a3 :: a4 :: a5 :: a6 :: a7 :: a8 :: a9 :: a10 :: a11 :: a12 :: a13 :: a14 :: a15 :: a16 :: some v :: r) H Q := ⟨v, rfl, h⟩
instance i_var17 {a0 a1 a2 a3 a4 a5 a6 a7 a8 a9 a10 a11 a12 a13 a14 a15 a16 : Option V} {r : L2.St} : St (tVar 17 (a0 :: a1 :: a2 :: a3 :: a4 :: a5 :: a6 :: a7 :: a8 :: a9 :: a10 :: a11 :: a12 :: a13 :: a14 :: a15 :: a16 :: some v :: r) H Q) (Q v H) := ⟨g_var17⟩
theorem g_name18 {R : L2.St → Hp → Prop} {a0 a1 a2 a3 a4 a5 a6 a7 a8 a9 a10 a11 a12 a13 a14 a15 a16 a17 : Option V} {b : Option V} {r : L2.St} (h : R (a0 :: a1 :: a2 :: a3 :: a4 :: a5 :: a6 :: a7 :: a8 :: a9 :: a10 :: a11 :: a12 :: a13 :: a14 :: a15 :: a16 :: a17 :: some v :: r) H) : gName 18 v (a0 :: a1 :: a2 :: a3 :: a4 :: a5 :: a6 :: a7 :: a8 :: a9 :: a10 :: a11 :: a12 :: a13 :: a14 :: a15 :: a16 :: a17 :: b :: r) H R := h
instance i_name18 {R : L2.St → Hp → Prop} {a0 a1 a2 a3 a4 a5 a6 a7 a8 a9 a10 a11 a12 a13 a14 a15 a16 a17 : Option V} {b : Option V} {r : L2.St} : St (gName 18 v (a0 :: a1 :: a2 :: a3 :: a4 :: a5 :: a6 :: a7 :: a8 :: a9 :: a10 :: a11 :: a12 :: a13 :: a14 :: a15 :: a16 :: a17 :: b :: r) H R) (R (a0 :: a1 :: a2 :: a3 :: a4 :: a5 :: a6 :: a7 :: a8 :: a9 :: a10 :: a11 :: a12 :: a13 :: a14 :: a15 :: a16 :: a17 :: some v :: r) H) := ⟨g_name18⟩
theorem g_var18 {a0 a1 a2 a3 a4 a5 a6 a7 a8 a9 a10 a11 a12 a13 a14 a15 a16 a17 : Option V} {r : L2.St} (h : Q v H) : tVar 18 (a0 :: a1 :: a2 :: a3 :: a4 :: a5 :: a6 :: a7 :: a8 :: a9 :: a10 :: a11 :: a12 :: a13 :: a14 :: a15 :: a16 :: a17 :: some v :: r) H Q := ⟨v, rfl, h⟩
instance i_var18 {a0 a1 a2 a3 a4 a5 a6 a7 a8 a9 a10 a11 a12 a13 a14 a15 a16 a17 : Option V} {r : L2.St} : St (tVar 18 (a0 :: a1 :: a2 :: a3 :: a4 :: a5 :: a6 :: a7 :: a8 :: a9 :: a10 :: a11 :: a12 :: a13 :: a14 :: a15 :: a16 :: a17 :: some v :: r) H Q) (Q v H) := ⟨g_var18⟩
theorem g_name19 {R : L2.St → Hp → Prop} {a0 a1 a2 a3 a4 a5 a6 a7 a8 a9 a10 a11 a12 a13 a14 a15 a16 a17 a18 : Option V} {b : Option V} {r : L2.St} (h : R (a0 :: a1 :: a2 :: a3 :: a4 :: a5 :: a6 :: a7 :: a8 :: a9 :: a10 :: a11 :: a12 :: a13 :: a14 :: a15 :: a16 :: a17 :: a18 :: some v :: r) H) : gName 19 v (a0 :: a1 :: a2 :: a3 :: a4 :: a5 :: a6 :: a7 :: a8 :: a9 :: a10 :: a11 :: a12 :: a13 :: a14 :: a15 :: a16 :: a17 :: a18 :: b :: r) H R := h
instance i_name19 {R : L2.St → Hp → Prop} {a0 a1 a2 a3 a4 a5 a6 a7 a8 a9 a10 a11 a12 a13 a14 a15 a16 a17 a18 : Option V} {b : Option V} {r : L2.St} : St (gName 19 v (a0 :: a1 :: a2 :: a3 :: a4 :: a5 :: a6 :: a7 :: a8 :: a9 :: a10 :: a11 :: a12 :: a13 :: a14 :: a15 :: a16 :: a17 :: a18 :: b :: r) H R) (R (a0 :: a1 :: a2 :: a3 :: a4 :: a5 :: a6 :: a7 :: a8 :: a9 :: a10 :: a11 :: a12 :: a13 :: a14 :: a15 :: a16 :: a17 :: a18 :: some v :: r) H) := ⟨g_name19⟩
theorem g_var19 {a0 a1 a2 a3 a4 a5 a6 a7 a8 a9 a10 a11 a12 a13 a14 a15 a16 a17 a18 : Option V} {r : L2.St} (h : Q v H) : tVar 19 (a0 :: a1 :: a2 :: a3 :: a4 :: a5 :: a6 :: a7 :: a8 :: a9 :: a10 :: a11 :: a12 :: a13 :: a14 :: a15 :: a16 :: a17 :: a18 :: some v :: r) H Q := ⟨v, rfl, h⟩
instance i_var19 {a0 a1 a2 a3 a4 a5 a6 a7 a8 a9 a10 a11 a12 a13 a14 a15 a16 a17 a18 : Option V} {r : L2.St} : St (tVar 19 (a0 :: a1 :: a2 :: a3 :: a4 :: a5 :: a6 :: a7 :: a8 :: a9 :: a10 :: a11 :: a12 :: a13 :: a14 :: a15 :: a16 :: a17 :: a18 :: some v :: r) H Q) (Q v H) := ⟨g_var19⟩
theorem g_name20 {R : L2.St → Hp → Prop} {a0 a1 a2 a3 a4 a5 a6 a7 a8 a9 a10 a11 a12 a13 a14 a15 a16 a17 a18 a19 : Option V} {b : Option V} {r : L2.St} (h : R (a0 :: a1 :: a2 :: a3 :: a4 :: a5 :: a6 :: a7 :: a8 :: a9 :: a10 :: a11 :: a12 :: a13 :: a14 :: a15 :: a16 :: a17 :: a18 :: a19 :: some v :: r) H) : gName 20 v (a0 :: a1 :: a2 :: a3 :: a4 :: a5 :: a6 :: a7 :: a8 :: a9 :: a10 :: a11 :: a12 :: a13 :: a14 :: a15 :: a16 :: a17 :: a18 :: a19 :: b :: r) H R := h
instance i_name20 {R : L2.St → Hp → Prop} {a0 a1 a2 a3 a4 a5 a6 a7 a8 a9 a10 a11 a12 a13 a14 a15 a16 a17 a18 a19 : Option V} {b : Option V} {r : L2.St} : St (gName 20 v (a0 :: a1 :: a2 :: a3 :: a4 :: a5 :: a6 :: a7 :: a8 :: a9 :: a10 :: a11 :: a12 :: a13 :: a14 :: a15 :: a16 :: a17 :: a18 :: a19 :: b :: r) H R) (R (a0 :: a1 :: a2 :: a3 :: a4 :: a5 :: a6 :: a7 :: a8 :: a9 :: a10 :: a11 :: a12 :: a13 :: a14 :: a15 :: a16 :: a17 :: a18 :: a19 :: some v :: r) H) := ⟨g_name20⟩
theorem g_var20 {a0 a1 a2 a3 a4 a5 a6 a7 a8 a9 a10 a11 a12 a13 a14 a15 a16 a17 a18 a19 : Option V} {r : L2.St} (h : Q v H) : tVar 20 (a0 :: a1 :: a2 :: a3 :: a4 :: a5 :: a6 :: a7 :: a8 :: a9 :: a10 :: a11 :: a12 :: a13 :: a14 :: a15 :: a16 :: a17 :: a18 :: a19 :: some v :: r) H Q := ⟨v, rfl, h⟩
instance i_var20 {a0 a1 a2 a3 a4 a5 a6 a7 a8 a9 a10 a11 a12 a13 a14 a15 a16 a17 a18 a19 : Option V} {r : L2.St} : St (tVar 20 (a0 :: a1 :: a2 :: a3 :: a4 :: a5 :: a6 :: a7 :: a8 :: a9 :: a10 :: a11 :: a12 :: a13 :: a14 :: a15 :: a16 :: a17 :: a18 :: a19 :: some v :: r) H Q) (Q v H) := ⟨g_var20⟩
theorem g_name21 {R : L2.St → Hp → Prop} {a0 a1 a2 a3 a4 a5 a6 a7 a8 a9 a10 a11 a12 a13 a14 a15 a16 a17 a18 a19 a20 : Option V} {b : Option V} {r : L2.St} (h : R (a0 :: a1 :: a2 :: a3 :: a4 :: a5 :: a6 :: a7 :: a8 :: a9 :: a10 :: a11 :: a12 :: a13 :: a14 :: a15 :: a16 :: a17 :: a18 :: a19 :: a20 :: some v :: r) H) : gName 21 v (a0 :: a1 :: a2 :: a3 :: a4 :: a5 :: a6 :: a7 :: a8 :: a9 :: a10 :: a11 :: a12 :: a13 :: a14 :: a15 :: a16 :: a17 :: a18 :: a19 :: a20 :: b :: r) H R := h
instance i_name21 {R : L2.St → Hp → Prop} {a0 a1 a2 a3 a4 a5 a6 a7 a8 a9 a10 a11 a12 a13 a14 a15 a16 a17 a18 a19 a20 : Option V} {b : Option V} {r : L2.St} : St (gName 21 v (a0 :: a1 :: a2 :: a3 :: a4 :: a5 :: a6 :: a7 :: a8 :: a9 :: a10 :: a11 :: a12 :: a13 :: a14 :: a15 :: a16 :: a17 :: a18 :: a19 :: a20 :: b :: r) H R) (R (a0 :: a1 :: a2 :: a3 :: a4 :: a5 :: a6 :: a7 :: a8 :: a9 :: a10 :: a11 :: a12 :: a13 :: a14 :: a15 :: a16 :: a17 :: a18 :: a19 :: a20 :: some v :: r) H) := ⟨g_name21⟩
theorem g_var21 {a0 a1 a2 a3 a4 a5 a6 a7 a8 a9 a10 a11 a12 a13 a14 a15 a16 a17 a18 a19 a20 : Option V} {r : L2.St} (h : Q v H) : tVar 21 (a0 :: a1 :: a2 :: a3 :: a4 :: a5 :: a6 :: a7 :: a8 :: a9 :: a10 :: a11 :: a12 :: a13 :: a14 :: a15 :: a16 :: a17 :: a18 :: a19 :: a20 :: some v :: r) H Q := ⟨v, rfl, h⟩
instance i_var21 {a0 a1 a2 a3 a4 a5 a6 a7 a8 a9 a10 a11 a12 a13 a14 a15 a16 a17 a18 a19 a20 : Option V} {r : L2.St} : St (tVar 21 (a0 :: a1 :: a2 :: a3 :: a4 :: a5 :: a6 :: a7 :: a8 :: a9 :: a10 :: a11 :: a12 :: a13 :: a14 :: a15 :: a16 :: a17 :: a18 :: a19 :: a20 :: some v :: r) H Q) (Q v H) := ⟨g_var21⟩
theorem g_name22 {R : L2.St → Hp → Prop} {a0 a1 a2 a3 a4 a5 a6 a7 a8 a9 a10 a11 a12 a13 a14 a15 a16 a17 a18 a19 a20 a21 : Option V} {b : Option V} {r : L2.St} (h : R (a0 :: a1 :: a2 :: a3 :: a4 :: a5 :: a6 :: a7 :: a8 :: a9 :: a10 :: a11 :: a12 :: a13 :: a14 :: a15 :: a16 :: a17 :: a18 :: a19 :: a20 :: a21 :: some v :: r) H) : gName 22 v (a0 :: a1 :: a2 :: a3 :: a4 :: a5 :: a6 :: a7 :: a8 :: a9 :: a10 :: a11 :: a12 :: a13 :: a14 :: a15 :: a16 :: a17 :: a18 :: a19 :: a20 :: a21 :: b :: r) H R := h
instance i_name22 {R : L2.St → Hp → Prop} {a0 a1 a2 a3 a4 a5 a6 a7 a8 a9 a10 a11 a12 a13 a14 a15 a16 a17 a18 a19 a20 a21 : Option V} {b : Option V} {r : L2.St} : St (gName 22 v (a0 :: a1 :: a2 :: a3 :: a4 :: a5 :: a6 :: a7 :: a8 :: a9 :: a10 :: a11 :: a12 :: a13 :: a14 :: a15 :: a16 :: a17 :: a18 :: a19 :: a20 :: a21 :: b :: r) H R) (R (a0 :: a1 :: a2 :: a3 :: a4 :: a5 :: a6 :: a7 :: a8 :: a9 :: a10 :: a11 :: a12 :: a13 :: a14 :: a15 :: a16 :: a17 :: a18 :: a19 :: a20 :: a21 :: some v :: r) H) := ⟨g_name22⟩
theorem g_var22 {a0 a1 a2 a3 a4 a5 a6 a7 a8 a9 a10 a11 a12 a13 a14 a15 a16 a17 a18 a19 a20 a21 : Option V} {r : L2.St} (h : Q v H) : tVar 22 (a0 :: a1 :: a2 :: a3 :: a4 :: a5 :: a6 :: a7 :: a8 :: a9 :: a10 :: a11 :: a12 :: a13 :: a14 :: a15 :: a16 :: a17 :: a18 :: a19 :: a20 :: a21 :: some v :: r) H Q := ⟨v, rfl, h⟩
instance i_var22 {a0 a1 a2 a3 a4 a5 a6 a7 a8 a9 a10 a11 a12 a13 a14 a15 a16 a17 a18 a19 a20 a21 : Option V} {r : L2.St} : St (tVar 22 (a0 :: a1 :: a2 :: a3 :: a4 :: a5 :: a6 :: a7 :: a8 :: a9 :: a10 :: a11 :: a12 :: a13 :: a14 :: a15 :: a16 :: a17 :: a18 :: a19 :: a20 :: a21 :: some v :: r) H Q) (Q v H) := ⟨g_var22⟩
theorem g_name23 {R : L2.St → Hp → Prop} {a0 a1 a2 a3 a4 a5 a6 a7 a8 a9 a10 a11 a12 a13 a14 a15 a16 a17 a18 a19 a20 a21 a22 : Option V} {b : Option V} {r : L2.St} (h : R (a0 :: a1 :: a2 :: a3 :: a4 :: a5 :: a6 :: a7 :: a8 :: a9 :: a10 :: a11 :: a12 :: a13 :: a14 :: a15 :: a16 :: a17 :: a18 :: a19 :: a20 :: a21 :: a22 :: some v :: r) H) : gName 23 v (a0 :: a1 :: a2 :: a3 :: a4 :: a5 :: a6 :: a7 :: a8 :: a9 :: a10 :: a11 :: a12 :: a13 :: a14 :: a15 :: a16 :: a17 :: a18 :: a19 :: a20 :: a21 :: a22 :: b :: r) H R := h
instance i_name23 {R : L2.St → Hp → Prop} {a0 a1 a2 a3 a4 a5 a6 a7 a8 a9 a10 a11 a12 a13 a14 a15 a16 a17 a18 a19 a20 a21 a22 : Option V} {b : Option V} {r : L2.St} : St (gName 23 v (a0 :: a1 :: a2 :: a3 :: a4 :: a5 :: a6 :: a7 :: a8 :: a9 :: a10 :: a11 :: a12 :: a13 :: a14 :: a15 :: a16 :: a17 :: a18 :: a19 :: a20 :: a21 :: a22 :: b :: r) H R) (R (a0 :: a1 :: a2 :: a3 :: a4 :: a5 :: a6 :: a7 :: a8 :: a9 :: a10 :: a11 :: a12 :: a13 :: a14 :: a15 :: a16 :: a17 :: a18 :: a19 :: a20 :: a21 :: a22 :: some v :: r) H) := ⟨g_name23⟩
theorem g_var23 {a0 a1 a2 a3 a4 a5 a6 a7 a8 a9 a10 a11 a12 a13 a14 a15 a16 a17 a18 a19 a20 a21 a22 : Option V} {r : L2.St} (h : Q v H) : tVar 23 (a0 :: a1 :: a2 :: a3 :: a4 :: a5 :: a6 :: a7 :: a8 :: a9 :: a10 :: a11 :: a12 :: a13 :: a14 :: a15 :: a16 :: a17 :: a18 :: a19 :: a20 :: a21 :: a22 :: some v :: r) H Q := ⟨v, rfl, h⟩
instance i_var23 {a0 a1 a2 a3 a4 a5 a6 a7 a8 a9 a10 a11 a12 a13 a14 a15 a16 a17 a18 a19 a20 a21 a22 : Option V} {r : L2.St} : St (tVar 23 (a0 :: a1 :: a2 :: a3 :: a4 :: a5 :: a6 :: a7 :: a8 :: a9 :: a10 :: a11 :: a12 :: a13 :: a14 :: a15 :: a16 :: a17 :: a18 :: a19 :: a20 :: a21 :: a22 :: some v :: r) H Q) (Q v H) := ⟨g_var23⟩
end
theorem ne_nn {H : Hp} {a b : Addr} {o : HO} (h' : H b = none) (h : H a = some o) : a ≠ b := ne_of_none h h'
theorem ne_kd {H : Hp} {a b : Addr} {o u : HO} (h : H a = some o) (h' : H b = some u) (d : Nat.beq (kd o) (kd u) = false) : a ≠ b := ne_of h h' fun z => by
  rw [z] at d
  simp at d
theorem ntb {o : HO} (d : Nat.beq (kd o) 11 = false) : ∀ ps, o ≠ .tbl ps := fun ps z => by
  rw [z] at d
  exact absurd d (show ¬ (Nat.beq 11 11 = false) by decide)
theorem Kp.look {S : List Addr} {H H' : Hp} {p : Addr} {o : HO} (k : Kp S H H') (n : p ∉ S) (h : H p = some o) (t : ∀ ps, o ≠ .tbl ps) : H' p = some o := k.keep p o n h t
theorem nin1 {a b : Addr} (h : b ≠ a) : b ∉ [a] := fun z => h (by cases z with | head => rfl | tail _ z => cases z)
theorem nin0 {b : Addr} : b ∉ ([] : List Addr) := fun z => nomatch z
theorem nin2 {a c b : Addr} (h : b ≠ a) (h' : b ≠ c) : b ∉ [a, c] := fun z => by
  cases z with
  | head => exact h rfl
  | tail _ z => exact nin1 h' z
theorem ite_tt {A B : Prop} (h : A) : if true = true then A else B := by rw [if_pos rfl]; exact h
theorem ite_ff {A B : Prop} (h : B) : if false = true then A else B := by rw [if_neg Bool.false_ne_true]; exact h
theorem ite_dd {c A B : Prop} [Decidable c] (h1 : c → A) (h2 : ¬ c → B) : if decide c = true then A else B := by
  by_cases h : c
  · rw [if_pos (decide_eq_true h)]; exact h1 h
  · rw [if_neg (by rw [decide_eq_false h]; exact Bool.false_ne_true)]; exact h2 h
theorem ite_nd {c A B : Prop} [Decidable c] (h1 : ¬ c → A) (h2 : c → B) : if (!decide c) = true then A else B := by
  by_cases h : c
  · rw [if_neg (by rw [decide_eq_true h]; exact Bool.false_ne_true)]; exact h2 h
  · rw [if_pos (by rw [decide_eq_false h]; rfl)]; exact h1 h
theorem ite_bb {b : Bool} {A B : Prop} (h1 : b = true → A) (h2 : b = false → B) : if b = true then A else B := by
  cases b with
  | true => exact ite_tt (h1 rfl)
  | false => exact ite_ff (h2 rfl)
theorem ite_P {b : Bool} {A B : Prop} (e : b = true) (h : A) : if b = true then A else B := by rw [if_pos e]; exact h
theorem ite_N {b : Bool} {A B : Prop} (e : b = false) (h : B) : if b = true then A else B := by rw [if_neg (by rw [e]; exact Bool.false_ne_true)]; exact h
end Ap
namespace Ap
open PySem L2
def kWn (Pv : L2.St → Hp → Prop) (μ : L2.St → Hp → Nat) (n : Nat) (tb : TS) (D : Ends) (σ : L2.St) : Hp → Prop := fun H1 =>
  ∃ N : L2.St → Hp → Prop, (∀ σ' H', N σ' H' → ∃ m', m' < n ∧ (m' = μ σ' H' ∧ Pv σ' H')) ∧ tb { D with nx := N, ct := N, bk := D.nx } σ H1
theorem g_kWn {Pv : L2.St → Hp → Prop} {μ : L2.St → Hp → Nat} {n : Nat} {tb : TS} {D : Ends} {σ : L2.St} {H : Hp}
    (h : tb ⟨fun σ' H' => Pv σ' H' ∧ μ σ' H' < n, D.rt, D.nx, fun σ' H' => Pv σ' H' ∧ μ σ' H' < n⟩ σ H) : kWn Pv μ n tb D σ H :=
  ⟨fun σ' H' => Pv σ' H' ∧ μ σ' H' < n, fun _ _ q => ⟨_, q.2, rfl, q.1⟩, h⟩
instance i_kWn {Pv : L2.St → Hp → Prop} {μ : L2.St → Hp → Nat} {n : Nat} {tb : TS} {D : Ends} {σ : L2.St} {H : Hp} : St (kWn Pv μ n tb D σ H) (tb ⟨fun σ' H' => Pv σ' H' ∧ μ σ' H' < n, D.rt, D.nx, fun σ' H' => Pv σ' H' ∧ μ σ' H' < n⟩ σ H) := ⟨g_kWn⟩
/-- a while, by what holds ahead of its test and a number that falls -/
theorem g_whl {tt : TT} {tb : TS} {D : Ends} {σ : L2.St} {H : Hp} (Pv : L2.St → Hp → Prop) (μ : L2.St → Hp → Nat) (h0 : Pv σ H)
    (hs : ∀ σ H, Pv σ H → tt σ H (kIf (kWn Pv μ (μ σ H) tb D σ) (D.nx σ))) : tWhile tt tb D σ H :=
  ⟨fun m σ H => m = μ σ H ∧ Pv σ H, ⟨_, rfl, h0⟩, fun m σ H ⟨e, p⟩ => by subst e; exact hs σ H p⟩
end Ap
namespace Ap
open PySem L2
theorem g_cut {t u : TS} {D : Ends} {σ : L2.St} {H : Hp} (Mid : L2.St → Hp → Prop) (h1 : t ⟨Mid, D.rt, D.bk, D.ct⟩ σ H) (h2 : ∀ σ' H', Mid σ' H' → u D σ' H') : Evl.tCut t u D σ H := ⟨Mid, h1, h2⟩
end Ap
namespace Ap
open PySem L2
section
variable {K : PySem.W.Frag} {σ : L2.St} {H : Hp} {Q : VK} {x : V} {te : TE} {tl th : TO} {i : Int} {lo hi : Option Int}
abbrev SlF := V → Option Int → Option Int → Hp → VK → Prop
abbrev OK := Option Int → Hp → Prop
def kSl1 (r : SlF) (tl th : TO) (σ : L2.St) (Q : VK) : VK := fun x H1 => tl σ H1 fun l H2 => th σ H2 fun u H3 => r x l u H3 Q
def kSl2 (r : SlF) (th : TO) (x : V) (σ : L2.St) (Q : VK) : OK := fun l H2 => th σ H2 fun u H3 => r x l u H3 Q
def kSl3 (r : SlF) (x : V) (lo : Option Int) (Q : VK) : OK := fun u H3 => r x lo u H3 Q
def kPa (R : OK) : VK := fun x H1 => ∃ i, x = .int i ∧ R (some i) H1
instance i_sl {r : SlF} : St (tSl r te tl th σ H Q) (te σ H (kSl1 r tl th σ Q)) := ⟨id⟩
instance i_kSl1 {r : SlF} : St (kSl1 r tl th σ Q x H) (tl σ H (kSl2 r th x σ Q)) := ⟨id⟩
instance i_kSl2 {r : SlF} : St (kSl2 r th x σ Q lo H) (th σ H (kSl3 r x lo Q)) := ⟨id⟩
instance i_kSl3 {r : SlF} : St (kSl3 r x lo Q hi H) (r x lo hi H Q) := ⟨id⟩
instance i_noPart {R : OK} : St (tNoPart σ H R) (R none H) := ⟨id⟩
instance i_part {R : OK} : St (tPart te σ H R) (te σ H (kPa R)) := ⟨id⟩
instance i_kPa {R : OK} : St (kPa R (.int i) H) (R (some i) H) := ⟨fun h => ⟨i, rfl, h⟩⟩
theorem g_slL {p : Addr} {xs : List V} (e : H p = some (.lst xs)) (h : ∀ q, H q = none → Q (.ref q) (upd H q (.lst (cutV xs lo hi)))) : rSlL K (.ref p) lo hi H Q := ⟨p, xs, rfl, SqL.of e, h⟩
end
theorem cut_to {xs : List V} {k : Nat} {i : Int} (e : i = (k : Int)) (h : k ≤ xs.length) : cutV xs none (some i) = xs.take k := by
  subst e
  unfold cutV
  rw [HT.sIx_none, HT.sIx_nat, List.drop_zero, Nat.min_eq_left h, Nat.sub_zero]
theorem cut_from {xs : List V} {k : Nat} {i : Int} (e : i = (k : Int)) : cutV xs (some i) none = xs.drop k := by
  subst e
  unfold cutV
  rw [HT.sIx_none, HT.sIx_nat]
  by_cases h : k ≤ xs.length
  · rw [Nat.min_eq_left h, List.take_of_length_le (by rw [List.length_drop]; omega)]
  · rw [Nat.min_eq_right (by omega), List.drop_eq_nil_of_le (Nat.le_refl _), List.drop_eq_nil_of_le (by omega)]; simp
end Ap


/-! KG: defs whose callers are not within a repr (what repr asks); the law's end over them. -/
namespace Ap
open PySem L2 PySem.Spec PyProof.Rows
section
variable (P : Program) (w : World) (K : PySem.W.Frag) (mg : Str → Option Value) (base : Heap) (CX : CXT)
/-- as FnOk, at calls around which no repr runs -/
structure FnG (k : Nat) (f : Addr) (fd : FuncData) (ps : List Str) (sp : Sp) : Prop where
  len : ∀ vs H Q E, sp vs H Q E → vs.length = ps.length
  go : ∀ (B : Around) (outs : List Env) (s : Shared) (H : Hp) (args : Args) (us : List Value) (vs : List V) (Q : VK) (E : XK), Room k B → B.guards = some [] →
    Env0 P w K mg base B outs s H → BindsTo s fd args (ps.zip us) → Vals vs us → sp vs H Q E → codeAny (model P w) B (.call (.ref f) args) (CR CX outs P w H s Q E) s
end
section
variable {P : Program} {w : World} {K : PySem.W.Frag} {mg : Str → Option Value} {base : Heap} {CX : CXT} {k : Nat} {f : Addr} {fd : FuncData} {ps : List Str} {sp : Sp}
theorem FnG.of (F : FnOk P w K mg base CX k f fd ps sp) : FnG P w K mg base CX k f fd ps sp := ⟨F.len, fun B outs s H args us vs Q E hr _ => F.run B outs s H args us vs Q E hr⟩
theorem FnG.mono {j : Nat} (F : FnG P w K mg base CX j f fd ps sp) (h : j ≤ k) : FnG P w K mg base CX k f fd ps sp :=
  ⟨F.len, fun B outs s H args us vs Q E hr => F.go B outs s H args us vs Q E (hr.mono h)⟩
theorem FnG.imp {sp' : Sp} (F : FnG P w K mg base CX k f fd ps sp) (h : ∀ vs H Q E, sp' vs H Q E → sp vs H Q E) : FnG P w K mg base CX k f fd ps sp' :=
  ⟨fun vs H Q E q => F.len vs H Q E (h vs H Q E q), fun B outs s H args us vs Q E hr hg e b r q => F.go B outs s H args us vs Q E hr hg e b r (h vs H Q E q)⟩
theorem _root_.L2.Room.u1 {k : Nat} {A : Around} (r : Room k A) : A.units + 1 < cLine := by have := r.un; omega
theorem _root_.L2.Room.u64 {k : Nat} {A : Around} (r : Room k A) : A.units + 64 < cLine := by have := r.un; omega
/-- a def by its body -/
theorem fnG_of {x qual : Str} {st : Stmt} {N : List Str} (F : Fun K x qual st f fd) (S : FnScope N ps (defScope st)) (len : ∀ vs H Q E, sp vs H Q E → vs.length = ps.length)
    (body : ∀ (cdv : Value) (B : Around) (outs : List Env) (s : Shared) (H : Hp) (vs : List V) (Q : VK) (E : XK), fd.code = cdv → Room k (B.deeper (envOfC qual (defScope st) s.heap.objs.size f cdv)) → B.guards = some [] → sp vs H Q E →
      ∃ t, PSs (cxOf CX P w K mg base N qual (defScope st) f cdv B outs s H E) (defBody st) t ∧ t ⟨fun _ H' => Q .non H', Q, fun _ _ => False, fun _ _ => False⟩ (start N vs) H) :
    FnG P w K mg base CX (k + 1) f fd ps sp := by
  obtain ⟨oc, od, kV, doc, pm, an, cdv, ct, osl, rfl, lk, hcd⟩ := F.ex
  refine ⟨len, fun B outs s H args us vs Q E hr hg e0 hb rv hsp => ?_⟩
  have ln := len vs H Q E hsp
  have kin : K.In s.heap := e0.mod.kin.keeps fun b o e => (e0.bs b o e).1
  refine codeAny_call_function hr.depth (kin f _ lk) rfl S.co S.gen rfl (PySem.W.codeRec_of kin hcd) (hb _ _ _ _ ?_)
  refine wpAny_newFunctionEnv_cells S.kind (fun y hy => ?_) fun env he s1 inc => ?_
  · rcases S.par y.1 (List.of_mem_zip (show (y.1, y.2) ∈ ps.zip us from hy)).1 with q | q
    · exact .inl q
    · exact .inr ⟨q, PySem.W.cellsFrom_some _ _ _ (.inl q)⟩
  · subst he
    refine ⟨(e0.mod.nolimit.keeps fun b o e => (e0.bs b o e).1).keeps inc.toInCall.keep, codeAny_func ?_⟩
    obtain ⟨t, ht, hq⟩ := body cdv B outs s H vs Q E rfl (hr.deeper _) hg hsp
    have I0 := inv_start (CX := CX) (E := E) (K := K) (cd := cdv) (f := f) S hr.hd e0 ln rv inc
    refine wpAny_mono (ht.run [] s1 (start N vs) H _ I0 hq) (fun fl s2 hs => ?_) fun _ _ hs => hs
    cases fl with
    | ret u =>
      obtain ⟨v, σ', H', J, r', q⟩ := hs
      exact ⟨v, H', J.os, J.bare, J.base, J.hok, r', q⟩
    | next =>
      obtain ⟨σ', H', J, q⟩ := hs
      exact ⟨.non, H', J.os, J.bare, J.base, J.hok, rfl, q⟩
    | brk =>
      obtain ⟨_, _, _, z⟩ := hs
      exact z.elim
    | cont =>
      obtain ⟨_, _, _, z⟩ := hs
      exact z.elim
/-- the same where nothing that is raised leaves it -/
theorem fnG_of0 {x qual : Str} {st : Stmt} {N : List Str} (F : Fun K x qual st f fd) (S : FnScope N ps (defScope st)) (len : ∀ vs H Q E, sp vs H Q E → vs.length = ps.length)
    (body : ∀ (cdv : Value) (B : Around) (outs : List Env) (s : Shared) (H : Hp) (vs : List V) (Q : VK) (E : XK), fd.code = cdv → Room k (B.deeper (envOfC qual (defScope st) s.heap.objs.size f cdv)) → B.guards = some [] → sp vs H Q E →
      ∃ t, PSs (cxOf CX0 P w K mg base N qual (defScope st) f cdv B outs s H E).nox (defBody st) t ∧ t ⟨fun _ H' => Q .non H', Q, fun _ _ => False, fun _ _ => False⟩ (start N vs) H) :
    FnG P w K mg base CX0 (k + 1) f fd ps sp := fnG_of F S len fun cdv B outs s H vs Q E hc hr hg hsp => by
  obtain ⟨t, ht, hq⟩ := body cdv B outs s H vs Q E hc hr hg hsp
  exact ⟨t, ht.nox, hq⟩
/-! for defs and methods of the program: whatever runs around them -/
/-- a def by its body -/
theorem fnK_of {x qual : Str} {st : Stmt} {N : List Str} (F : Fun K x qual st f fd) (S : FnScope N ps (defScope st)) (len : ∀ vs H Q E, sp vs H Q E → vs.length = ps.length)
    (body : ∀ (cdv : Value) (B : Around) (outs : List Env) (s : Shared) (H : Hp) (vs : List V) (Q : VK) (E : XK), fd.code = cdv → Room k (B.deeper (envOfC qual (defScope st) s.heap.objs.size f cdv)) → sp vs H Q E →
      ∃ t, PSs (cxOf CX P w K mg base N qual (defScope st) f cdv B outs s H E) (defBody st) t ∧ t ⟨fun _ H' => Q .non H', Q, fun _ _ => False, fun _ _ => False⟩ (start N vs) H) :
    FnOk P w K mg base CX (k + 1) f fd ps sp := by
  obtain ⟨oc, od, kV, doc, pm, an, cdv, ct, osl, rfl, lk, hcd⟩ := F.ex
  refine ⟨len, fun B outs s H args us vs Q E hr e0 hb rv hsp => ?_⟩
  have ln := len vs H Q E hsp
  have kin : K.In s.heap := e0.mod.kin.keeps fun b o e => (e0.bs b o e).1
  refine codeAny_call_function hr.depth (kin f _ lk) rfl S.co S.gen rfl (PySem.W.codeRec_of kin hcd) (hb _ _ _ _ ?_)
  refine wpAny_newFunctionEnv_cells S.kind (fun y hy => ?_) fun env he s1 inc => ?_
  · rcases S.par y.1 (List.of_mem_zip (show (y.1, y.2) ∈ ps.zip us from hy)).1 with q | q
    · exact .inl q
    · exact .inr ⟨q, PySem.W.cellsFrom_some _ _ _ (.inl q)⟩
  · subst he
    refine ⟨(e0.mod.nolimit.keeps fun b o e => (e0.bs b o e).1).keeps inc.toInCall.keep, codeAny_func ?_⟩
    obtain ⟨t, ht, hq⟩ := body cdv B outs s H vs Q E rfl (hr.deeper _) hsp
    have I0 := inv_start (CX := CX) (E := E) (K := K) (cd := cdv) (f := f) S hr.hd e0 ln rv inc
    refine wpAny_mono (ht.run [] s1 (start N vs) H _ I0 hq) (fun fl s2 hs => ?_) fun _ _ hs => hs
    cases fl with
    | ret u =>
      obtain ⟨v, σ', H', J, r', q⟩ := hs
      exact ⟨v, H', J.os, J.bare, J.base, J.hok, r', q⟩
    | next =>
      obtain ⟨σ', H', J, q⟩ := hs
      exact ⟨.non, H', J.os, J.bare, J.base, J.hok, rfl, q⟩
    | brk =>
      obtain ⟨_, _, _, z⟩ := hs
      exact z.elim
    | cont =>
      obtain ⟨_, _, _, z⟩ := hs
      exact z.elim
/-- the same where nothing that is raised leaves it -/
theorem fnK_of0 {x qual : Str} {st : Stmt} {N : List Str} (F : Fun K x qual st f fd) (S : FnScope N ps (defScope st)) (len : ∀ vs H Q E, sp vs H Q E → vs.length = ps.length)
    (body : ∀ (cdv : Value) (B : Around) (outs : List Env) (s : Shared) (H : Hp) (vs : List V) (Q : VK) (E : XK), fd.code = cdv → Room k (B.deeper (envOfC qual (defScope st) s.heap.objs.size f cdv)) → sp vs H Q E →
      ∃ t, PSs (cxOf CX0 P w K mg base N qual (defScope st) f cdv B outs s H E).nox (defBody st) t ∧ t ⟨fun _ H' => Q .non H', Q, fun _ _ => False, fun _ _ => False⟩ (start N vs) H) :
    FnOk P w K mg base CX0 (k + 1) f fd ps sp := fnK_of F S len fun cdv B outs s H vs Q E hc hr hsp => by
  obtain ⟨t, ht, hq⟩ := body cdv B outs s H vs Q E hc hr hsp
  exact ⟨t, ht.nox, hq⟩
end
section
variable {X : Cx} {CX : CXT} {k : Nat} {f : Addr} {fd : FuncData} {ps : List Str} {sp : Sp} {dvs : List V} {ds : List Value} {E : XK} {x : Str} {p pos : Pos} {e : Expr} {es : List Expr} {t : TA}
theorem run_g {pins : List (Addr × Obj)} {σ : L2.St} {H : Hp} {s : Shared} {Q : VK} {us : List Value} {vs : List V} (F : FnG X.prog X.w X.K X.mg X.base CX k f fd ps sp) (hr : Room k X.A) (gd : X.A.guards = some []) (hb : Binds X.K fd ps ds) (hd : Vals dvs ds) (hx : Passes CX X E)
    (I : Inv X pins σ H s) (r : Vals vs us) (h : sp (vs ++ dvs) H Q E) : wpAny (model X.prog X.w) X.A (call (.ref f) us) (EP X pins σ Q) X.xe s := by
  have rr : Vals (vs ++ dvs) (us ++ ds) := r.append hd
  have ln : (us ++ ds).length = ps.length := rr.length.symm.trans (F.len _ _ _ _ h)
  refine wpAny_call (codeAny_mono (F.go X.A X.stack s H ⟨us, []⟩ (us ++ ds) (vs ++ dvs) Q E hr gd I.env0 (hb s us I.kIn ln) rr h) fun res s2 hq => ?_)
  match res, hq with
  | .error e, hq => exact hx pins σ H s e s2 I hq
  | .ok (.ret u), hq => exact I.after hq
  | .ok .next, hq => exact False.elim hq
  | .ok .brk, hq => exact False.elim hq
  | .ok .cont, hq => exact False.elim hq
/-- f(e, ..) -/
theorem pe_callG (F : FnG X.prog X.w X.K X.mg X.base CX k f fd ps sp) (hr : Room k X.A) (gd : X.A.guards = some []) (hg : Gl X x) (hm : X.mg x = some (.ref f)) (hk : PySem.W.keepIn X.K (.ref f) = true) (hb : Binds X.K fd ps ds) (hd : Vals dvs ds) (hx : Passes CX X E)
    (ha : PA X (e :: es) t) (hdb : (x == ("__debug__" : Str)) = false := by decide) (he : starEach (e :: es) X.env = (false, eval e X.env) :: starEach es X.env := by rfl)
    (hpl : (backTo pos (starEach es X.env)).any (·.1) = false := by rfl) : PE X (.Call (.Name x p) (e :: es) [] pos) (tCall sp dvs E t) :=
  ⟨fun pins s σ H Q I h => wpAny_Call_Name_kw (ld_glob I hg hm (PySem.W.callWith_K (h₀ := X.base) I.ok.mod.kin hk
    (thn (ha.run pos pins s σ H _ I h) fun us s1 ⟨vs, H1, I1, r, q⟩ => ⟨I1.kIn, run_g F hr gd hb hd hx I1 r q⟩) he hpl) hdb)⟩
theorem pe_callG0 (F : FnG X.prog X.w X.K X.mg X.base CX k f fd ps sp) (hr : Room k X.A) (gd : X.A.guards = some []) (hg : Gl X x) (hm : X.mg x = some (.ref f)) (hk : PySem.W.keepIn X.K (.ref f) = true) (hb : Binds X.K fd ps ds) (hd : Vals dvs ds) (hx : Passes CX X E)
    (hdb : (x == ("__debug__" : Str)) = false := by decide) : PE X (.Call (.Name x p) [] [] pos) (tCall sp dvs E tNil) :=
  ⟨fun pins s σ H Q I h => wpAny_Call_Name_kw (ld_glob I hg hm (PySem.W.callWith_K0 I.kIn hk (run_g (us := []) F hr gd hb hd hx I .nil h)) hdb)⟩
/-- f(k=e, ..): keywords alone; g tells the parameters' order -/
theorem run_gk {ks : List Str} {g : List Value → List Value → List Value} {gV : List V → List V → List V} {pins : List (Addr × Obj)} {σ : L2.St} {H : Hp} {s : Shared} {Q : VK} {us ws : List Value} {vs zs : List V} (F : FnG X.prog X.w X.K X.mg X.base CX k f fd ps sp) (hr : Room k X.A) (gd : X.A.guards = some []) (hb : KBinds X.K fd ps ks g gV) (hx : Passes CX X E)
    (I : Inv X pins σ H s) (r : Vals vs us) (rz : Vals zs ws) (h : sp (gV vs zs) H Q E) : wpAny (model X.prog X.w) X.A (call (.ref f) us (ks.zip ws)) (EP X pins σ Q) X.xe s := by
  have rr := hb.rel r rz
  have ln : (g us ws).length = ps.length := rr.length.symm.trans (F.len _ _ _ _ h)
  refine wpAny_call (codeAny_mono (F.go X.A X.stack s H ⟨us, ks.zip ws⟩ (g us ws) (gV vs zs) Q E hr gd I.env0 (hb.to s us ws I.kIn ln) rr h) fun res s2 hq => ?_)
  match res, hq with
  | .error e, hq => exact hx pins σ H s e s2 I hq
  | .ok (.ret u), hq => exact I.after hq
  | .ok .next, hq => exact False.elim hq
  | .ok .brk, hq => exact False.elim hq
  | .ok .cont, hq => exact False.elim hq
end
end Ap
namespace Ap
open PySem L2 PySem.Spec PyProof.Rows
section
variable {X : Cx} {CX : CXT} {k : Nat} {f : Addr} {fd : FuncData} {ps ks : List Str} {sp : Sp} {E : XK} {x : Str} {p pos : Pos} {g : List Value → List Value → List Value} {gV : List V → List V → List V} {kws : List Keyword} {tk : TA}
def tKw (sp : Sp) (gV : List V → List V → List V) (E : XK) (tk : TA) : TE := fun σ H Q => tk σ H fun zs H2 => sp (gV [] zs) H2 Q E
/-- f(k=e, ..), keywords alone -/
theorem pe_callGK (F : FnG X.prog X.w X.K X.mg X.base CX k f fd ps sp) (hr : Room k X.A) (gd : X.A.guards = some []) (hg : Gl X x) (hm : X.mg x = some (.ref f)) (hk : PySem.W.keepIn X.K (.ref f) = true) (hb : KBinds X.K fd ps ks g gV) (hx : Passes CX X E) (hkw : PK X kws tk)
    (hall : (backToKw pos (keywordEach kws X.env)).all (·.1.isSome) = true := by rfl) (hks : (backToKw pos (keywordEach kws X.env)).filterMap (·.1) = ks := by rfl) (hdb : (x == ("__debug__" : Str)) = false := by decide)
    (hpl : ((backTo pos (starEach [] X.env)).any (·.1) || (backToKw pos (keywordEach kws X.env)).any (·.1.isNone)) = false := by rfl) : PE X (.Call (.Name x p) [] kws pos) (tKw sp gV E tk) := by
  refine ⟨fun pins s σ H Q I h => wpAny_Call_Name_kw (ld_glob I hg hm (PySem.W.callWith_KW0 (h₀ := X.base) I.ok.mod.kin hk hall ?_ hpl) hdb)⟩
  refine thn (hkw.run pos pins s σ H _ I h) fun ws s2 ⟨zs, H2, I2, rz, q2⟩ => ⟨I2.kIn, ?_⟩
  rw [hks]
  exact run_gk (us := []) (vs := []) F hr gd hb hx I2 .nil rz q2
def kKw (sp : Sp) (gV : List V → List V → List V) (E : XK) (Q : VK) : LK := fun zs H2 => sp (gV [] zs) H2 Q E
theorem g_kw {σ : L2.St} {H : Hp} {Q : VK} (h : tk σ H (kKw sp gV E Q)) : tKw sp gV E tk σ H Q := h
instance i_kw {σ : L2.St} {H : Hp} {Q : VK} : St (tKw sp gV E tk σ H Q) (tk σ H (kKw sp gV E Q)) := ⟨g_kw⟩
instance i_kKw {H : Hp} {Q : VK} {zs : List V} : St (kKw sp gV E Q zs H) (sp (gV [] zs) H Q E) := ⟨fun h => h⟩
theorem g_kKw {H : Hp} {Q : VK} {zs : List V} (h : sp (gV [] zs) H Q E) : kKw sp gV E Q zs H := h
end
/-- two keywords in the other order -/
def sw2 {α : Type} : List α → List α → List α := fun us ws => match us, ws with
  | [], [a, b] => [b, a]
  | _, _ => []
/-- one keyword -/
def sw1 {α : Type} : List α → List α → List α := fun us ws => match us, ws with
  | [], [a] => [a]
  | _, _ => []
theorem kb_sw2 {K : PySem.W.Frag} {x qual : Str} {st : Stmt} {f : Addr} {fd : FuncData} {p q : Str} (F : Fun K x qual st f fd)
    (h : ∀ (kV doc pm : Value) (an : Option Addr) (cdv ct a b : Value), bindArgs (PySem.W.fnOf x qual (defArgs st) (defBody st) (defScope st) .none kV doc pm an cdv ct) ⟨[], [(q, a), (p, b)]⟩ = pure [(p, b), (q, a)]) : KBinds K fd [p, q] [q, p] sw2 sw2 := by
  obtain ⟨oc, od, kV, doc, pm, an, cdv, ct, osl, rfl, lk, hcd⟩ := F.ex
  refine ⟨fun s us ws _ hl => ?_, fun {vs us zs ws} r1 r2 => ?_⟩
  · match us, ws, hl with
    | [], [a, b], _ => exact .of_eq (h _ _ _ _ _ _ a b)
  · cases r1 with
    | cons _ _ => exact .nil
    | nil =>
      cases r2 with
      | nil => exact .nil
      | cons a r2 =>
        cases r2 with
        | nil => exact .nil
        | cons b r2 =>
          cases r2 with
          | nil => exact .cons b (.cons a .nil)
          | cons _ _ => exact .nil
theorem kb_sw1 {K : PySem.W.Frag} {x qual : Str} {st : Stmt} {f : Addr} {fd : FuncData} {p : Str} (F : Fun K x qual st f fd)
    (h : ∀ (kV doc pm : Value) (an : Option Addr) (cdv ct a : Value), bindArgs (PySem.W.fnOf x qual (defArgs st) (defBody st) (defScope st) .none kV doc pm an cdv ct) ⟨[], [(p, a)]⟩ = pure [(p, a)]) : KBinds K fd [p] [p] sw1 sw1 := by
  obtain ⟨oc, od, kV, doc, pm, an, cdv, ct, osl, rfl, lk, hcd⟩ := F.ex
  refine ⟨fun s us ws _ hl => ?_, fun {vs us zs ws} r1 r2 => ?_⟩
  · match us, ws, hl with
    | [], [a], _ => exact .of_eq (h _ _ _ _ _ _ a)
  · cases r1 with
    | cons _ _ => exact .nil
    | nil =>
      cases r2 with
      | nil => exact .nil
      | cons a r2 =>
        cases r2 with
        | nil => exact .cons a .nil
        | cons b r2 => exact .nil

/-! ### the end -/
/-- the heap that the law's call is entered with: the script at a, the tables (their places in ts), nothing else -/
def H0 (a : Addr) (o : Obj) (ns : List Int) (scr : Bool) (ts : List Addr) : Hp := fun b => if b = a then (if scr = true then some (.frz o (.lst (ns.map V.int))) else none) else if b ∈ ts then some (.tbl #[]) else none
theorem law_go {P : Program} {w : World} {K : PySem.W.Frag} {mg mb : Str → Option Value} {CX : CXT} {k : Nat} {fa a : Addr} {fd : FuncData} {x : Str} {sp : Sp} {s₁ : Shared} {vs : List Value} {ns : List Int} {cs : List (Addr × Addr)} {q : Program} {loose : List Str} {mean : ExcName → Option Value}
    (KX : K.In s₁.heap) (T : PyProof.Rows.Top q loose mean mg mb s₁.heap) (noG : s₁.gens = #[])
    (hT : ∀ p ∈ cs, PySem.W.CodeHd s₁.heap p.1 p.2 ∧ s₁.heap.get? p.2 = some { cls := .none, data := .fields #[] }) (nT : ∀ p ∈ cs, K.lookup p.2 = none)
    (ha : s₁.heap.get? a = some { cls := .type "list", data := .seq vs.toArray }) (hi : IntsAre vs ns) (hl : ns.length ≤ sizeLine) (hr : Room k callerA)
    (F : ∀ base : Heap, K.In base → base.Ns mainGlobals mg → (∀ p ∈ cs, GxR.TabB base mg p.1 p.2) → FnG P w K mg base CX k fa fd [x] sp) (hbind : ∀ (s : Shared) (u : Value), BindsTo s fd ⟨[u], []⟩ [(x, u)])
    (hsp : ∀ H : Hp, (∀ p ∈ cs, H p.2 = some (.tbl #[])) → SqL K H a (ns.map V.int) → sp [.ref a] H (fun v _ => v = .bl true) fun _ _ _ => False)
    (hCX : ∀ H e s', CX [] H s₁ (fun _ _ _ => False) e s' → False) :
    codeAny (model P w) callerA (.call (.ref fa) ⟨[.ref a], []⟩) (fun r s' => r = .ok (.ret (.bool true)) ∧ OldK s₁.heap s'.heap ∧ s'.os = s₁.os ∧ AllBare s'.gens) s₁ := by
  generalize ho : ({ cls := .type "list", data := .seq vs.toArray } : Obj) = o at ha
  have vals := vals_ints hi
  have inT : ∀ b, b ∈ cs.map (·.2) → ∃ p ∈ cs, p.2 = b := fun b hb => by
    obtain ⟨p, hp, e⟩ := List.mem_map.mp hb
    exact ⟨p, hp, e⟩
  have atT : ∀ b, b ∈ cs.map (·.2) → s₁.heap.get? b = some { cls := .none, data := .fields #[] } := fun b hb => by
    obtain ⟨p, hp, rfl⟩ := inT b hb
    exact (hT p hp).2
  have oT : o ≠ { cls := .none, data := .fields #[] } := fun z => by rw [← ho] at z; cases z
  have naT : a ∉ cs.map (·.2) := fun z => oT (Option.some.inj (ha.symm.trans (atT a z)))
  -- whether the script is one of the module's own
  generalize hscr : (K.lookup a).isNone = scr
  generalize hH : H0 a o ns scr (cs.map (·.2)) = H
  have Ha : H a = if scr = true then some (.frz o (.lst (ns.map V.int))) else none := by rw [← hH]; exact if_pos rfl
  have Ht : ∀ b, b ∈ cs.map (·.2) → H b = some (.tbl #[]) := fun b hb => by
    rw [← hH]
    unfold H0
    rw [if_neg (show ¬ b = a from fun z => naT (by rw [← z]; exact hb)), if_pos hb]
  have Hn : ∀ b, b ≠ a → b ∉ cs.map (·.2) → H b = none := fun b h1 h2 => by
    rw [← hH]
    unfold H0
    rw [if_neg h1, if_neg h2]
  have Hany : ∀ b, H b ≠ none → b = a ∨ b ∈ cs.map (·.2) := fun b hb => by
    by_cases h1 : b = a
    · exact .inl h1
    · by_cases h2 : b ∈ cs.map (·.2)
      · exact .inr h2
      · exact absurd (Hn b h1 h2) hb
  have plain : ∀ (b : Addr) (u : Obj), s₁.heap.get? b = some u → u ≠ o → u ≠ { cls := .none, data := .fields #[] } → H b = none := fun b u e n1 n2 => by
    refine Hn b (fun z => n1 ?_) fun z => n2 ?_
    · rw [z] at e
      exact Option.some.inj (e.symm.trans ha)
    · exact Option.some.inj (e.symm.trans (atT b z))
  have held : HOk P w H s₁.heap := fun b u e => by
    rcases Hany b (by rw [e]; exact fun z => nomatch z) with rfl | hb
    · rw [Ha] at e
      cases scr with
      | false => exact nomatch e
      | true =>
        cases e
        exact ⟨ha, by rw [List.length_map]; exact hl, vs, 0, vals, by rw [ho]; exact ha⟩
    · rw [Ht b hb] at e
      cases e
      exact atT b hb
  have kinH : K.In (hidT s₁.heap H) := fun b u e => hidT_get (KX b u e) (by
    by_cases h1 : b = a
    · rw [h1, Ha]
      have : scr = false := by rw [← hscr, ← h1, e]; rfl
      rw [this]
      exact if_neg Bool.false_ne_true
    · refine Hn b h1 fun z => ?_
      obtain ⟨p, hp, rfl⟩ := inT b z
      rw [nT p hp] at e
      exact nomatch e)
  have nsH : ∀ {b : Addr} {m : Str → Option Value}, s₁.heap.Ns b m → (hidT s₁.heap H).Ns b m := fun {b m} ⟨u, es, ep, e, d, r⟩ =>
    ⟨u, es, ep, hidT_get e (plain b u e (fun z => by rw [z, ← ho] at d; cases d) (fun z => by rw [z] at d; cases d)), d, r⟩
  have modH : L2.Mod K mg (hidT s₁.heap H) := by
    obtain ⟨mc, n1, n2⟩ := T.nolimit
    exact ⟨kinH, nsH T.g, ⟨mb, nsH T.b, T.builtins⟩, ⟨mc, nsH n1, n2⟩⟩
  have tabs : ∀ p ∈ cs, GxR.TabB (hidT s₁.heap H) mg p.1 p.2 := fun p hp => by
    obtain ⟨⟨u, us, file, tf, flags, tg, inF, text, tt, c1, c2, c3, c4⟩, c5⟩ := hT p hp
    obtain ⟨bm, ob, b1, b2, b3, b4, b5, b6⟩ := T.bmain
    obtain ⟨gm, ges, gep, ge, gd, _⟩ := T.g
    refine ⟨⟨u, us, file, tf, flags, tg, inF, text, tt, hidT_get c1 (plain _ u c1 (fun z => by rw [z, ← ho] at c2; simp at c2) (fun z => by rw [z] at c2; cases c2)), c2, c3, c4⟩, ⟨bm, ob, b1, b2, fun z => ?_, fun z => ?_, hidT_get b3 (plain _ ob b3 (fun z => by rw [z, ← ho] at b4; simp at b4) (fun z => by rw [z] at b4; cases b4)), b4, b5, b6⟩, fun z => ?_⟩
    · rw [z, ge] at b3
      cases b3
      rw [gd] at b6
      cases b6
    · rw [z, c5] at b3
      cases b3
      cases b6
    · rw [z, c5] at ge
      cases ge
      cases gd
  have seen : SqL K H a (ns.map V.int) := by
    cases scr with
    | true => exact .inl (.inr ⟨o, by rw [Ha]; exact if_pos rfl⟩)
    | false =>
      cases hk : K.lookup a with
      | none =>
        rw [hk] at hscr
        exact nomatch hscr
      | some u =>
        have e := KX a u hk
        rw [ha] at e
        cases e
        exact .inr ⟨o, vs.toArray, 0, hk, by rw [← ho], by rw [← ho], by rw [← ho], by rw [List.size_toArray, hi.length]; exact hl, by simpa using vals⟩
  have e0 : Env0 P w K mg (hidT s₁.heap H) callerA [] s₁ H :=
    ⟨rfl, modH, fun b u e => of_hidT e, Nat.le_of_eq (hidT_size _ _), trivial, fun b hb => absurd (show b ∈ ([] : List Addr) from hb) List.not_mem_nil, held, .of_eq noG⟩
  refine codeAny_mono ((F _ kinH (nsH T.g) tabs).go callerA [] s₁ H ⟨[.ref a], []⟩ [.ref a] [.ref a] _ _ hr rfl e0 (hbind s₁ (.ref a)) (.cons rfl .nil) (hsp H (fun p hp => Ht p.2 (List.mem_map.mpr ⟨p, hp, rfl⟩)) seen)) fun res s2 h => ?_
  match res, h with
  | .error e, h => exact (hCX H e s2 h).elim
  | .ok .next, h => exact False.elim h
  | .ok .brk, h => exact False.elim h
  | .ok .cont, h => exact False.elim h
  | .ok (.ret u), h =>
    obtain ⟨v, H', os, bare, un, held', r', q'⟩ := h
    obtain rfl : v = .bl true := q'
    obtain rfl : u = Value.bool true := r'
    have stays : ∀ b u, b ∉ cs.map (·.2) → s₁.heap.get? b = some u → s2.heap.get? b = some u := fun b u nb e => by
      cases hb : H b with
      | none => exact un.keep b u e hb List.not_mem_nil List.not_mem_nil
      | some z =>
        rcases Hany b (by rw [hb]; exact fun z => nomatch z) with rfl | h2
        · rw [Ha] at hb
          cases scr with
          | false => exact nomatch hb
          | true =>
            have z2 := un.frzs b o (.lst (ns.map V.int)) (by rw [Ha]; exact if_pos rfl)
            have e2 := (held' b _ z2).1
            rw [ha] at e
            cases e
            exact e2
        · exact absurd h2 nb
    have grown : ∀ p ∈ cs, ∃ more : Array Value, s2.heap.get? p.2 = some { cls := .none, data := .fields more } := fun p hp => by
      obtain ⟨more, z⟩ := un.tbls p.2 #[] (Ht p.2 (List.mem_map.mpr ⟨p, hp, rfl⟩))
      exact ⟨_, held' p.2 _ z⟩
    refine ⟨rfl, ⟨fun b u e => ?_, fun b u e => ?_⟩, os, bare⟩
    · by_cases hb : b ∈ cs.map (·.2)
      · obtain ⟨p, hp, rfl⟩ := inT b hb
        obtain ⟨more, hm⟩ := grown p hp
        rw [(hT p hp).2] at e
        cases e
        exact .inr (.inl ⟨((hT p hp).1.tab (hT p hp).2).isCodeTable, rfl, #[], more, rfl, by rw [Array.empty_append]; exact hm⟩)
      · exact .inl (stays b u hb e)
    · by_cases hb : b ∈ cs.map (·.2)
      · obtain ⟨p, hp, rfl⟩ := inT b hb
        obtain ⟨more, hm⟩ := grown p hp
        exact ⟨_, hm⟩
      · exact ⟨u, stays b u hb e⟩
/-- what is asked of the law over the head -/
def LawIs (l : PySem.W.OpenLaw) (w : World) (K : PySem.W.Frag) (CX : CXT) (k : Nat) (x : Str) (mg : Str → Option Value) (fa : Addr) (h : Heap) : Prop :=
  ∃ (fd : FuncData) (cs : List (Addr × Addr)) (sp : Sp), (∀ p ∈ cs, PySem.W.CodeHd h p.1 p.2 ∧ h.get? p.2 = some { cls := .none, data := .fields #[] }) ∧ (∀ p ∈ cs, K.lookup p.2 = none) ∧ (∀ (s : Shared) (u : Value), BindsTo s fd ⟨[u], []⟩ [(x, u)]) ∧
    (∀ (H : Hp) (a : Addr) (ns : List Int), ns.length ≤ 63 → (∀ z ∈ ns, Builtin.Int.intBits z ≤ 1048576) → (∀ p ∈ cs, H p.2 = some (.tbl #[])) → SqL K H a (ns.map V.int) → sp [.ref a] H (fun v _ => v = .bl true) fun _ _ _ => False) ∧
    ∀ base : Heap, K.In base → base.Ns mainGlobals mg → (∀ p ∈ cs, GxR.TabB base mg p.1 p.2) → FnG l.prog w K mg base CX k fa fd [x] sp
theorem walk_g {l : PySem.W.OpenLaw} {k : Nat} {q : Program} {loose : List Str} {XP : (Str → Option Value) → Heap → Prop} {YP : World → Heap → Prop} {d : DefRec} {K : Params → PySem.W.Frag} {CX : World → CXT} {x : Str}
    (hn : l.most = some 63) (hdf : d.params.defaults = []) (hr : Room k callerA) (hY : ∀ (w : World) (h : Heap), YP w h → (K w.params).In h)
    (F : ∀ (w : World) (mg mb : Str → Option Value) (fa : Addr) (h : Heap) (loose : List Str) (mean : ExcName → Option Value), YP w h → (K w.params).In h → PyProof.Rows.Top q loose mean mg mb h → mg d.name = some (.ref fa) → LawIs l w (K w.params) (CX w) k x mg fa h)
    (hCX : ∀ (w : World) (H : Hp) (s : Shared) (e : Value) (s' : Shared), CX w [] H s (fun _ _ _ => False) e s' → False) :
    PySem.W.WalkO q loose XP YP l.row.toRowW d [] (fun f vs => PySem.call f vs) := by
  refine Att.attach_callB hn hdf fun w s₀ s₁ mg mb fa o pm cd doc a vs ns G Y ho hd hcd hmg hobj hints hlen hbits hg => ?_
  obtain ⟨fd, cs, sp, hT, nT, hb, hsp, hF⟩ := F w mg mb fa s₁.heap _ _ Y (hY w s₁.heap Y) G.T hmg
  exact law_go (hY w s₁.heap Y) G.T hg hT nT hobj hints (Nat.le_trans hlen (by decide)) hr hF hb (fun H hH hS => hsp H a ns hlen hbits hH hS) fun H e s' => hCX w H s₁ e s'
end Ap


/-! K22: steps at the making of own things. -/
namespace Ap
open PySem L2 PySem.Spec PyProof.Rows
section
variable {C : Addr} {sp : Sp} {dvs : List V} {E : XK} {t tk : TA} {σ : L2.St} {H : Hp} {Q : VK} {m : Nat} {gV : List V → List V → List V} {vs zs : List V}
def kMk (C : Addr) (sp : Sp) (dvs : List V) (E : XK) (Q : VK) : LK := fun vs H1 => ∀ x dx, H1 x = none → H1 dx = none → dx ≠ x → sp (.ref x :: (vs ++ dvs)) (upd (upd H1 dx (.own x)) x (.ins C dx [])) (fun v H2 => v = .non ∧ Q (.ref x) H2) E
instance i_make : St (tMake C sp dvs E t σ H Q) (t σ H (kMk C sp dvs E Q)) := ⟨id⟩
theorem g_kMk (h : ∀ x dx, H x = none → H dx = none → dx ≠ x → sp (.ref x :: (vs ++ dvs)) (upd (upd H dx (.own x)) x (.ins C dx [])) (fun v H2 => v = .non ∧ Q (.ref x) H2) E) : kMk C sp dvs E Q vs H := h
def kMkK (C : Addr) (m : Nat) (sp : Sp) (gV : List V → List V → List V) (E : XK) (Q : VK) : LK := fun zs H2 => zs.length = m ∧ ∀ x dx, H2 x = none → H2 dx = none → dx ≠ x → sp (gV [.ref x] zs) (upd (upd H2 dx (.own x)) x (.ins C dx [])) (fun v H3 => v = .non ∧ Q (.ref x) H3) E
instance i_makeK : St (tMakeK C 0 m sp gV E tNil tk σ H Q) (tk σ H (kMkK C m sp gV E Q)) := ⟨fun h => by
  show tk σ H fun zs H2 => ([] : List V).length = 0 ∧ zs.length = m ∧ ∀ x dx, H2 x = none → H2 dx = none → dx ≠ x → _
  have e : (fun zs H2 => ([] : List V).length = 0 ∧ zs.length = m ∧ ∀ x dx, H2 x = none → H2 dx = none → dx ≠ x → sp (gV [.ref x] zs) (upd (upd H2 dx (.own x)) x (.ins C dx [])) (fun v H3 => v = .non ∧ Q (.ref x) H3) E) = kMkK C m sp gV E Q := by
    funext zs H2
    unfold kMkK
    simp
  rw [e]
  exact h⟩
theorem g_kMkK (l : zs.length = m) (h : ∀ x dx, H x = none → H dx = none → dx ≠ x → sp (gV [.ref x] zs) (upd (upd H dx (.own x)) x (.ins C dx [])) (fun v H2 => v = .non ∧ Q (.ref x) H2) E) : kMkK C m sp gV E Q zs H := ⟨l, h⟩
end
end Ap


/-! K2: rules that the layer lacks. -/
namespace Ap
open PySem L2 PySem.Spec PyProof.Rows
section
variable {X : Cx}
/-! ### a list beside the empty list, whatever it holds -/
def rEqE (K : PySem.W.Frag) : R2 := fun x y H Q => ∃ p q xs, x = .ref p ∧ y = .ref q ∧ SqL K H p xs ∧ SqL K H q [] ∧ Q (.bl xs.isEmpty) H
def rNeE (K : PySem.W.Frag) : R2 := fun x y H Q => ∃ p q xs, x = .ref p ∧ y = .ref q ∧ SqL K H p xs ∧ SqL K H q [] ∧ Q (.bl (!xs.isEmpty)) H
theorem isList_of {h : Heap} {a : Addr} {its : Array Value} (x : PlainL h a its) : h.IsList a its := by
  obtain ⟨o, n, e, c, _, d⟩ := x
  exact ⟨o, e, c, n, d⟩
theorem op_eqE (hu : X.A.units < cLine) : OpR X (compareOp .Eq) (rEqE X.K) := by
  intro pins s σ H x y v u Q I rx ry h
  obtain ⟨p, q, xs, rfl, rfl, h1, h2, k⟩ := h
  cases rx
  cases ry
  obtain ⟨its, r1, l1, _⟩ := I.list h1
  obtain ⟨its2, r2, l2, _⟩ := I.list h2
  cases r2
  cases r1 with
  | nil => exact SeqAt.eq_listAt (isList_of l1) (isList_of l2) rfl hu (e := fun _ => true) (fun j j1 _ => absurd j1 (by simp)) ⟨.bl _, H, I, rfl, k⟩
  | cons a b => exact SeqAt.eq_list_lengthsAt (isList_of l1) (isList_of l2) (by simp) hu ⟨.bl _, H, I, rfl, k⟩
theorem op_neE (hu : X.A.units < cLine) : OpR X (compareOp .NotEq) (rNeE X.K) := by
  intro pins s σ H x y v u Q I rx ry h
  obtain ⟨p, q, xs, rfl, rfl, h1, h2, k⟩ := h
  cases rx
  cases ry
  obtain ⟨its, r1, l1, _⟩ := I.list h1
  obtain ⟨its2, r2, l2, _⟩ := I.list h2
  cases r2
  cases r1 with
  | nil => exact (SeqAt.RcNeAt.lists (isList_of l1) (isList_of l2) rfl hu (e := fun _ => true) (fun j j1 _ => absurd j1 (by simp))) _ _ _ _ ⟨.bl _, H, I, rfl, k⟩
  | cons a b => exact (SeqAt.RcNeAt.lists_lengths (isList_of l1) (isList_of l2) (by simp) hu) _ _ _ _ ⟨.bl _, H, I, rfl, k⟩
theorem g_neE {K : PySem.W.Frag} {H : Hp} {Q : VK} {p q : Addr} {xs : List V} (e : H p = some (.lst xs)) (e2 : H q = some (.lst [])) (h : Q (.bl (!xs.isEmpty)) H) : rNeE K (.ref p) (.ref q) H Q := ⟨p, q, xs, rfl, rfl, SqL.of e, SqL.of e2, h⟩
theorem g_eqE {K : PySem.W.Frag} {H : Hp} {Q : VK} {p q : Addr} {xs : List V} (e : H p = some (.lst xs)) (e2 : H q = some (.lst [])) (h : Q (.bl xs.isEmpty) H) : rEqE K (.ref p) (.ref q) H Q := ⟨p, q, xs, rfl, rfl, SqL.of e, SqL.of e2, h⟩

/-! ### repr of data -/
mutual
theorem dp_plain {K : PySem.W.Frag} {H : Hp} : ∀ {d : PyData} {v : V}, Dp K H v d → d.hasDict = false
  | _, _, .non => by simp only [PyData.hasDict]
  | _, _, .bl b => by simp only [PyData.hasDict]
  | _, _, .int i => by simp only [PyData.hasDict]
  | _, _, .str x => by simp only [PyData.hasDict]
  | _, _, .lst _ a => by simp only [PyData.hasDict]; exact dpAll_plain a
  | _, _, .tup _ a => by simp only [PyData.hasDict]; exact dpAll_plain a
theorem dpAll_plain {K : PySem.W.Frag} {H : Hp} : ∀ {ds : List PyData} {vs : List V}, DpAll K H vs ds → PyData.hasDictAll ds = false
  | _, _, .nil => by simp only [PyData.hasDictAll]
  | _, _, .cons h t => by simp only [PyData.hasDictAll, dp_plain h, dpAll_plain t, Bool.or_self]
end
def rRep (K : PySem.W.Frag) : List V → Hp → VK → Prop := fun xs H Q => ∃ (p : Addr) (d : PyData), xs = [.ref p] ∧ Dp K H (.ref p) d ∧ d.showable = true ∧ d.depth < 60 ∧ d.shown.length ≤ sizeLine ∧ Q (.str d.shown) H
theorem cr_repr {k : Nat} (hr : Room k X.A) (hg : X.A.guards = some []) : CallR X (.builtin "repr") (rRep X.K) := by
  intro pins s σ H xs us Q I r h
  obtain ⟨p, d, rfl, hd, hs, hdp, hz, q⟩ := h
  obtain ⟨u, rfl, rx⟩ := vals1 r
  cases rx
  obtain ⟨as, rd⟩ := Dp.reads I d (.ref p) (.ref p) hd rfl
  have hu := hr.units
  exact repr_of_reads' rd hs (PyData.noDict_hsm (dp_plain hd)) hg (by omega) (fun _ _ e => e) (fun h' u tk kp => ⟨.str d.shown, H, I.kept kp, ⟨u, rfl⟩, q⟩) hz
theorem g_repr {K : PySem.W.Frag} {H : Hp} {Q : VK} {p : Addr} {d : PyData} (hd : Dp K H (.ref p) d) (hs : d.showable = true) (hdp : d.depth < 60) (hz : d.shown.length ≤ sizeLine) (h : Q (.str d.shown) H) : rRep K [.ref p] H Q := ⟨p, d, rfl, hd, hs, hdp, hz, h⟩
end
end Ap


/-! KQ: code that leaves every object as it is (what a generator expression asks of its element). -/
namespace Ap
open PySem L2 PySem.Spec PyProof.Rows
structure Gd (K : PySem.W.Frag) (mg : Str → Option Value) (h : Heap) : Prop where
  kin : K.In h
  ns : h.Ns mainGlobals mg
  blt : ∃ mb, h.Ns builtinsNs mb ∧ ∀ x : Str, x ≠ "__name__" → mb x = bootBuiltins x
  lim : h.NoLimit
abbrev Stays (h h' : Heap) : Prop := ∀ b o, h.get? b = some o → h'.get? b = some o
theorem Gd.keeps {K : PySem.W.Frag} {mg : Str → Option Value} {h h' : Heap} (g : Gd K mg h) (k : Stays h h') : Gd K mg h' :=
  ⟨g.kin.keeps k, g.ns.keeps k, let ⟨mb, a, b⟩ := g.blt; ⟨mb, a.keeps k, b⟩, let ⟨mc, a, b⟩ := g.lim; ⟨mc, a.keeps k, b⟩⟩
theorem kst {s s' : Shared} (k : Keeps s s') : Stays s.heap s'.heap := by
  obtain ⟨h, t, rfl, q⟩ := k
  exact q
theorem ktr {s s' s'' : Shared} (a : Keeps s s') (b : Keeps s' s'') : Keeps s s'' := by
  obtain ⟨h, t, rfl, q⟩ := a
  obtain ⟨h2, t2, rfl, q2⟩ := b
  exact ⟨h2, t2, rfl, fun x o e => q2 x o (q x o e)⟩
theorem kat (s : Shared) (t : Nat) : Keeps s { s with toks := t } := ⟨s.heap, t, rfl, fun _ _ e => e⟩
/-- an expression's value in a frame that runs; good: what is known of the heap, kept where objects are kept -/
structure Qx where
  P : Program
  w : World
  K : PySem.W.Frag
  mg : Str → Option Value
  env : Env
  A : Around
  good : Heap → Prop
structure Qx.Ok (X : Qx) : Prop where
  gd : ∀ h, X.good h → Gd X.K X.mg h
  kp : ∀ h h', X.good h → Stays h h' → X.good h'
  kind : X.env.scope.kind = .function
  glob : X.env.globals = mainGlobals
  blt : X.env.builtins = builtinsNs
/-- e has a value of which R holds -/
def QE (X : Qx) (e : Expr) (R : Value → Prop) : Prop := ∀ (E : Value → Shared → Prop) (s : Shared), X.good s.heap → wpAny (model X.P X.w) X.A (eval e X.env) (fun u s' => R u ∧ Keeps s s') E s
section
variable {X : Qx} {e : Expr} {x : Str} {p pos : Pos} {u : Value} {R : Value → Prop}
theorem q_loc (ok : X.Ok) (hk : X.env.kindOf x = some .local) (h : ∀ h, X.good h → ∃ m, h.Ns X.env.locals m ∧ m x = some u) (r : R u) (hd : (x == ("__debug__" : Str)) = false := by decide) : QE X (.Name x pos) R := fun E s g => by
  obtain ⟨m, n, e⟩ := h s.heap g
  exact wpAny_Name (wpAny_loadName_local ok.kind hk n e ⟨r, kat s s.toks⟩) hd
theorem q_free (ok : X.Ok) {c : Addr} (hk : X.env.kindOf x = some .free) (hc : X.env.cells.lookup x = some c) (h : ∀ h, X.good h → h.IsCell c (some u)) (r : R u) (hd : (x == ("__debug__" : Str)) = false := by decide) (hcd : (x == ("__classdict__" : Str)) = false := by decide) : QE X (.Name x pos) R := fun E s g =>
  wpAny_Name (wpAny_loadName_free ok.kind hk hc (h s.heap g) ⟨r, kat s s.toks⟩ hcd) hd
theorem q_int {i : Int} {j : Nat} (r : ∀ t, R (.int i t)) : QE X (.Constant (.int i) j pos) R := fun E s g => wpAny_Constant_int ⟨r _, kat s _⟩
/-- isinstance(e, T) -/
theorem q_isi (ok : X.Ok) {b : Bool} {T T' : String} {x' : Str} {Pv : Heap → Prop} {p2 : Pos} (he : QE X e (· = u)) (Z : PySem.W.KitX X.K u (.type T') Pv) (hP : ∀ h, X.good h → Pv h) (k : kitB T' T = some b) (hx : u ≠ .builtin "__main__.__loader__#opaque")
    (g1 : X.env.kindOf "isinstance" = some .globalImplicit) (m1 : X.mg "isinstance" = none) (g2 : X.env.kindOf x' = some .globalImplicit) (m2 : X.mg x' = none) (v2 : bootBuiltins x' = some (.type T)) (r : R (.bool b)) (n2 : x' ≠ "__name__" := by decide) (d2 : (x' == ("__debug__" : Str)) = false := by decide)
    (h1 : starEach [e, .Name x' p2] X.env = (false, eval e X.env) :: starEach [.Name x' p2] X.env := by rfl) (h2 : starEach [.Name x' p2] X.env = (false, eval (.Name x' p2) X.env) :: starEach [] X.env := by rfl) :
    QE X (.Call (.Name "isinstance" p) [e, .Name x' p2] [] pos) R := fun E s g => by
  obtain ⟨mb, b1, b2⟩ := (ok.gd _ g).blt
  refine wpAny_Call_Name_kw (Calls.Name_function_global ok.kind g1 (Calls.loadGlobal_builtin (by rw [ok.glob]; exact (ok.gd _ g).ns) m1 (by rw [ok.blt]; exact b1) ((b2 _ (by decide)).trans boot_isinstance) ?_) (by decide))
  refine PyProof.Rows.callWith_builtin1 ?_ h1 (by rfl)
  rw [h1]
  refine Calls.spliced_cons (thn (he E s g) fun v s1 ⟨ev, k1⟩ => ?_)
  subst ev
  have g' := ok.kp _ _ g (kst k1)
  obtain ⟨mb', c1, c2⟩ := (ok.gd _ g').blt
  rw [h2]
  refine Calls.spliced_cons (Calls.Name_function_global ok.kind g2 (Calls.loadGlobal_builtin (by rw [ok.glob]; exact (ok.gd _ g').ns) m2 (by rw [ok.blt]; exact c1) ((c2 _ n2).trans v2) ?_) d2)
  refine Calls.spliced_nil ?_
  exact PySem.W.kia_one Z (ok.gd _ g').kin (hP _ g') (kit_ty k) hx fun tk => ⟨r, ktr k1 (kat s1 tk)⟩
theorem q_not {a : Bool} (he : QE X e (· = .bool a)) (r : R (.bool (!a))) : QE X (.UnaryOp .Not e pos) R := fun E s g =>
  UnaryOp_ (thn (he E s g) fun v s1 ⟨ev, k1⟩ => by subst ev; exact not_of (wpAny_truthy_bool ⟨r, k1⟩))
theorem q_and {a : Bool} {e' : Expr} (ok : X.Ok) (he : QE X e (· = .bool a)) (h1 : a = true → QE X e' R) (h0 : a = false → R (.bool false)) : QE X (.BoolOp .And [e, e'] pos) R := fun E s g => by
  refine BoolOp_and (thn (he E s g) fun v s1 ⟨ev, k1⟩ => ?_)
  subst ev
  refine wpAny_truthy_bool ?_
  cases a with
  | true => exact BoolOp_one (thn (h1 rfl E s1 (ok.kp _ _ g (kst k1))) fun v s2 ⟨r, k2⟩ => ⟨r, ktr k1 k2⟩)
  | false => exact ⟨h0 rfl, k1⟩
/-- a call of a def of the text -/
def QF (P : Program) (w : World) (K : PySem.W.Frag) (mg : Str → Option Value) (d : Nat) (f : Addr) (us : List Value) (pre : Heap → Prop) (R : Value → Prop) : Prop :=
  ∀ (A : Around) (E : Value → Shared → Prop) (s : Shared), A.handled = none → A.depth + d < recursionLimit → Gd K mg s.heap → pre s.heap → wpAny (model P w) A (call (.ref f) us) (fun y s' => R y ∧ Keeps s s') E s
theorem q_call1 (ok : X.Ok) {d : Nat} {f : Addr} {u : Value} {pre : Heap → Prop} (hd : X.A.handled = none) (hdp : X.A.depth + d < recursionLimit) (F : QF X.P X.w X.K X.mg d f [u] pre R) (hp : ∀ h, X.good h → pre h) (g1 : X.env.kindOf x = some .globalImplicit) (hm : X.mg x = some (.ref f)) (hk : PySem.W.keepIn X.K (.ref f) = true) (he : QE X e (· = u))
    (hdb : (x == ("__debug__" : Str)) = false := by decide) (h1 : starEach [e] X.env = (false, eval e X.env) :: starEach [] X.env := by rfl) : QE X (.Call (.Name x p) [e] [] pos) R := fun E s g => by
  refine wpAny_Call_Name_kw (Calls.Name_function_global ok.kind g1 (Calls.loadGlobal_global (by rw [ok.glob]; exact (ok.gd _ g).ns) hm ?_) hdb)
  refine PySem.W.callWith_K (ok.gd _ g).kin hk ?_ h1 (by rfl)
  rw [h1]
  refine Calls.spliced_cons (thn (he E s g) fun v s1 ⟨ev, k1⟩ => ?_)
  subst ev
  have g' := ok.kp _ _ g (kst k1)
  exact Calls.spliced_nil ⟨(ok.gd _ g').kin, thn (F X.A E s1 hd hdp (ok.gd _ g') (hp _ g')) fun y s2 ⟨r, k2⟩ => ⟨r, ktr k1 k2⟩⟩
theorem q_call2 (ok : X.Ok) {d : Nat} {f : Addr} {e2 : Expr} {u u2 : Value} {pre : Heap → Prop} (hd : X.A.handled = none) (hdp : X.A.depth + d < recursionLimit) (F : QF X.P X.w X.K X.mg d f [u, u2] pre R) (hp : ∀ h, X.good h → pre h) (g1 : X.env.kindOf x = some .globalImplicit) (hm : X.mg x = some (.ref f)) (hk : PySem.W.keepIn X.K (.ref f) = true) (he : QE X e (· = u)) (he2 : QE X e2 (· = u2))
    (hdb : (x == ("__debug__" : Str)) = false := by decide) (h1 : starEach [e, e2] X.env = (false, eval e X.env) :: starEach [e2] X.env := by rfl) (h2 : starEach [e2] X.env = (false, eval e2 X.env) :: starEach [] X.env := by rfl) : QE X (.Call (.Name x p) [e, e2] [] pos) R := fun E s g => by
  refine wpAny_Call_Name_kw (Calls.Name_function_global ok.kind g1 (Calls.loadGlobal_global (by rw [ok.glob]; exact (ok.gd _ g).ns) hm ?_) hdb)
  refine PySem.W.callWith_K (ok.gd _ g).kin hk ?_ h1 (by rw [h2]; rfl)
  rw [h1, h2]
  refine Calls.spliced_cons (thn (he E s g) fun v s1 ⟨ev, k1⟩ => ?_)
  subst ev
  have g1' := ok.kp _ _ g (kst k1)
  refine Calls.spliced_cons (thn (he2 E s1 g1') fun v s2 ⟨ev, k2⟩ => ?_)
  subst ev
  have g' := ok.kp _ _ g1' (kst k2)
  exact Calls.spliced_nil ⟨(ok.gd _ g').kin, thn (F X.A E s2 hd hdp (ok.gd _ g') (hp _ g')) fun y s3 ⟨r, k3⟩ => ⟨r, ktr (ktr k1 k2) k3⟩⟩
/-- a <= b <= c of whole numbers -/
theorem q_le2 (ok : X.Ok) {a b c : Expr} {i j k : Int} (ha : QE X a (fun v => ∃ t, v = .int i t)) (hb : QE X b (fun v => ∃ t, v = .int j t)) (hc : QE X c (fun v => ∃ t, v = .int k t)) (r : R (.bool (decide (i ≤ j) && decide (j ≤ k))))
    (hm : lastMarks [.LtE, .LtE] [b, c] = false := by with_unfolding_all rfl) : QE X (.Compare a [.LtE, .LtE] [b, c] pos) R := fun E s g => by
  refine Compare_chain (thn (ha E s g) fun v s1 ⟨⟨t, ev⟩, k1⟩ => chain_link (thn (hb E s1 (ok.kp _ _ g (kst k1))) fun v' s2 ⟨⟨t', ev'⟩, k2⟩ => ?_)) hm
  subst ev ev'
  refine le_int ?_
  refine wpAny_truthy_bool ?_
  have g2 := ok.kp _ _ (ok.kp _ _ g (kst k1)) (kst k2)
  cases h1 : decide (i ≤ j) with
  | false =>
    rw [h1] at r
    exact PyProof.Rows.ite_ff ⟨r, ktr k1 k2⟩
  | true =>
    rw [h1] at r
    refine PyProof.Rows.ite_tt (chain_last (thn (hc E s2 g2) fun w' s3 ⟨⟨t3, e3⟩, k3⟩ => ?_))
    subst e3
    exact le_int ⟨r, ktr (ktr k1 k2) k3⟩
/-- the frame of a def's body, its parameters' values known -/
def bq (P : Program) (w : World) (K : PySem.W.Frag) (mg : Str → Option Value) (ps : List Str) (us : List Value) (pre : Heap → Prop) (env : Env) (B : Around) : Qx :=
  ⟨P, w, K, mg, env, B, fun h => Gd K mg h ∧ pre h ∧ ∃ m, h.Ns env.locals m ∧ ∀ y v, (y, v) ∈ ps.zip us → m y = some v⟩
section
variable {P : Program} {w : World} {K : PySem.W.Frag} {mg : Str → Option Value} {ps : List Str} {us : List Value} {pre : Heap → Prop} {env : Env} {B : Around} {sc : Scope}
theorem bq_ok (hpre : ∀ h h', pre h → Stays h h' → pre h') (e1 : env.scope = sc) (hk : sc.kind = .function) (e2 : env.globals = mainGlobals) (e3 : env.builtins = builtinsNs) : (bq P w K mg ps us pre env B).Ok :=
  ⟨fun _ g => g.1, fun h h' g k => ⟨g.1.keeps k, hpre h h' g.2.1 k, let ⟨m, a, b⟩ := g.2.2; ⟨m, a.keeps k, b⟩⟩, by show env.scope.kind = _; rw [e1]; exact hk, e2, e3⟩
theorem bq_par {y : Str} {v : Value} {p : Pos} (ok : (bq P w K mg ps us pre env B).Ok) (e1 : env.scope = sc) (hk : sc.names.lookup y = some .local) (m : (y, v) ∈ ps.zip us) (hd : (y == ("__debug__" : Str)) = false := by decide) : QE (bq P w K mg ps us pre env B) (.Name y p) (· = v) :=
  q_loc ok (by show env.scope.names.lookup _ = _; rw [e1]; exact hk) (fun h g => let ⟨n, a, b⟩ := g.2.2; ⟨n, a, b y v m⟩) rfl hd
theorem bq_glob {y : Str} (e1 : env.scope = sc) (hk : sc.names.lookup y = some .globalImplicit) : (bq P w K mg ps us pre env B).env.kindOf y = some .globalImplicit := by
  show env.scope.names.lookup _ = _
  rw [e1]; exact hk
end
/-- a def whose body is one return -/
theorem qf_ret {P : Program} {w : World} {K : PySem.W.Frag} {mg : Str → Option Value} {d : Nat} {f : Addr} {fd : FuncData} {qual : Str} {st : Stmt} {ps : List Str} {us : List Value} {pre : Heap → Prop} {e : Expr} {rp : Pos} (F : Fun K x qual st f fd) (hkd : (defScope st).kind = .function) (hco : (defScope st).isCoroutine = false) (hge : (defScope st).isGenerator = false)
    (hloc : ∀ y ∈ ps, (defScope st).names.lookup y = some .local) (hb : Binds K fd ps []) (hl : us.length = ps.length) (hbd : defBody st = [.Return (some e) rp]) (hpre : ∀ h h', pre h → Stays h h' → pre h')
    (body : ∀ (B : Around) (env : Env), B.handled = none → B.depth + d < recursionLimit → env.scope = defScope st → env.globals = mainGlobals → env.builtins = builtinsNs →
      QE (bq P w K mg ps us pre env B) e R) (nd : ps.Nodup) : QF P w K mg (d + 1) f us pre R := by
  intro A E s hd hdp g hp
  obtain ⟨oc, od, kV, doc, pm, an, cdv, ct, osl, rfl, lk, hcd⟩ := F.ex
  have hb' := hb s us g.kin (by simpa using hl)
  rw [List.append_nil] at hb'
  refine wpAny_call (codeAny_call_function (by omega) (g.kin f _ lk) rfl hco hge rfl (PySem.W.codeRec_of g.kin hcd) (hb' _ _ _ _ ?_))
  refine wpAny_newFunctionEnv_cells hkd (fun y hy => .inl (hloc _ (List.of_mem_zip (show (y.1, y.2) ∈ ps.zip us from hy)).1)) fun env he s1 inc => ?_
  subst he
  obtain ⟨h1, tk, rfl, hk⟩ := inc.done
  refine ⟨g.lim.keeps hk, codeAny_func ?_⟩
  rw [hbd]
  refine wpAny_execs_cons (wpAny_Return_some ?_)
  have hB := body (A.deeper (envOfC qual (defScope st) s.heap.objs.size f cdv)) (envOfC qual (defScope st) s.heap.objs.size f cdv) hd (by show A.depth + 1 + d < _; omega) rfl rfl rfl
  refine thn (hB _ { s with heap := h1, toks := tk } ⟨g.keeps hk, hpre _ _ hp hk, _, inc.toInCall.ns, fun y v hy => ?_⟩) fun u s2 ⟨r, k⟩ => ⟨r, ktr ⟨h1, tk, rfl, hk⟩ k⟩
  obtain ⟨i, hi, ei⟩ := List.getElem_of_mem hy
  rw [List.getElem_zip] at ei
  have hz := hi
  rw [List.length_zip] at hz
  have i1 : i < ps.length := by omega
  have i2 : i < us.length := by omega
  have h1 : ps[i]? = some y := (List.getElem?_eq_getElem i1).trans (congrArg some (Prod.mk.inj ei).1)
  have h2 : us[i]? = some v := (List.getElem?_eq_getElem i2).trans (congrArg some (Prod.mk.inj ei).2)
  exact bindL_get nd h1 h2 (hloc y (List.mem_of_getElem? h1))
end
end Ap


/-! KA: all(elt for x in a list), the element code that leaves every object as it is. -/
namespace Ap
open PySem L2 PySem.Spec PyProof.Rows
/-- the frame of a generator expression's element, x bound to v; h1: the heap in which it was made -/
def qxOf (X : Cx) (scope : Scope) (x : Str) (P : Addr) (h1 : Heap) (C : Addr) (code : Value) (v : Value) (A : Around) : Qx where
  P := X.prog
  w := X.w
  K := X.K
  mg := X.mg
  env := genEnv scope (cloFrom X.env.cells scope.names []) C code builtinsNs X.env
  A := A
  good := fun h => Gd X.K X.mg h ∧ (∀ b o, b ≠ P → h1.get? b = some o → h.get? b = some o) ∧ ∃ m, h.Ns C m ∧ m x = some v
theorem qxOf_ok {X : Cx} (gl : X.env.globals = mainGlobals) {scope : Scope} (hk : scope.kind = .function) {x : Str} {P : Addr} {h1 : Heap} {C : Addr} {code v : Value} {A : Around} : (qxOf X scope x P h1 C code v A).Ok where
  gd := fun h g => g.1
  kp := fun h h' g k => ⟨g.1.keeps k, fun b o n e => k b o (g.2.1 b o n e), let ⟨m, a, e⟩ := g.2.2; ⟨m, a.keeps k, e⟩⟩
  kind := hk
  glob := gl
  blt := rfl
/-- what the element is at the item w: the answer y fits R w -/
def EltL (X : Cx) (scope : Scope) (x : Str) (P : Addr) (elt : Expr) (Cn : L2.St → Hp → V → (Value → Prop) → Prop) : Prop :=
  ∀ (pins : List (Addr × Obj)) (σ : L2.St) (H : Hp) (s : Shared), Inv X pins σ H s → (∃ ps, H P = some (.tbl ps)) → ∀ (w : V) (R : Value → Prop), Cn σ H w R → ∀ (u : Value), RelV w u → ∀ (C : Addr) (code : Value) (A : Around), A.handled = none → A.depth ≤ X.A.depth + 1 → A.units ≤ X.A.units + 8 →
    QE (qxOf X scope x P s.heap C code u A) elt R
section
variable {X : Cx} {pins : List (Addr × Obj)} {σ : L2.St} {H : Hp} {s : Shared}
/-- the generator g over the list ws, ready to be walked, in the state s5; H1: what was held before -/
def ReadyL (X : Cx) (pins : List (Addr × Obj)) (σ : L2.St) (H1 : Hp) (P : Addr) (ws : List V) (RR : Nat → Value → Prop) (g : Addr) (s5 : Shared) : Prop :=
  ∃ (fp wr : List Addr) (G : Array GenState → Array GenState → Prop) (F : Nat → Value → Prop) (St : Nat → Shared → Prop),
    WalksS X.prog X.w X.A.in4 g fp wr G ws.length F St ∧ St 0 s5 ∧ (∀ j v, F j v → j < ws.length ∧ RR j v) ∧
    ∀ s', Moved wr G s5 s' → ∃ H2, GxR.Tabbed P H1 H2 ∧ Inv X pins σ H2 s'
theorem gen_any {c P : Addr} {elt iter : Expr} {x : Str} {px gpos : Pos} {scope : Scope} {te : TE} {k : Nat} {Q' : Value → Shared → Prop} {Cn : L2.St → Hp → V → (Value → Prop) → Prop} {Rst : List V → (Nat → Value → Prop) → Hp → Prop}
    (hr : Room k X.A) (TB : GxR.TabB X.base X.mg c P) (hcode : X.env.code = .ref c) (S : GxR.GenS X.env scope x) (hi : PE X iter te) (hel : EltL X scope x P elt Cn)
    (hs : ∀ v, genFold iter X.env v = pure v) (I : Inv X pins σ H s)
    {Post : V → Hp → Prop} (h : te σ H Post)
    (hp : ∀ v H1, Post v H1 → ∃ (yl : Addr) (ws : List V) (RR : Nat → Value → Prop), v = .ref yl ∧ SqL X.K H1 yl ws ∧ (∀ i w, ws[i]? = some w → Cn σ H1 w (RR i)) ∧ GxR.TabG H1 P ∧ Rst ws RR H1)
    (hQ : ∀ ws RR H1 g s5, Rst ws RR H1 → ReadyL X pins σ H1 P ws RR g s5 → Q' (.ref g) s5) :
    wpAny (model X.prog X.w) X.A (eval (.GeneratorExp elt [⟨.Name x px, iter, [], 0⟩] scope gpos) X.env) Q' X.xe s := by
  refine wpAny_GeneratorExp_walksQD hr.hd S.co (closure_ok S.free) S.cell S.dot S.loc S.kind (by have := hr.dp; omega) ?_ hs
  refine thn (hi.run pins s σ H _ I h) fun xv s1 ⟨v, H1, I1, r1, q1⟩ => ?_
  obtain ⟨yl, ws, RR, rfl, hyl, hCn, ⟨ps, hP, ht⟩, q1⟩ := hp v H1 q1
  obtain rfl : xv = Value.ref yl := r1
  obtain ⟨its, rv, hl, hz⟩ := I1.list hyl
  have hIL := hl.isList
  have hlen : its.length = ws.length := rv.length.symm
  refine wpAny_pyIter_list hIL ?_
  generalize ho : ({ cls := .type "list_iterator", data := .fields #[.ref yl, .int 0 0] } : Obj) = o
  have hitr : (s1.heap.push o).IsListIter s1.heap.objs.size yl 0 := by
    subst ho
    exact ⟨_, Heap.get?_push_size _ rfl, rfl, rfl⟩
  have hylt : yl < s1.heap.objs.size := by
    obtain ⟨_, e, _⟩ := _root_.id hIL
    exact Heap.lt_size e
  have hPs : s1.heap.get? P = some { cls := .none, data := .fields ps } := I1.hok P _ hP
  have hPlt : P < s1.heap.objs.size := Heap.lt_size hPs
  have hP2 : (s1.heap.push o).get? P = some { cls := .none, data := .fields ps } := Heap.get?_push_of_some _ hPs
  have cd : PySem.W.CodeHd (s1.heap.push o) c P := TB.code.keeps fun b u e => Heap.get?_push_of_some _ (I1.bk b u e)
  have lim2 : (s1.heap.push o).NoLimit := I1.nolimit.push o
  have cont : ∀ (code : Value) (h3 : Heap) (tk : Nat) (ps' : Array Value), Heap.ExtBut P (s1.heap.push o) h3 → (s1.heap.push o).objs.size ≤ h3.objs.size → h3.get? P = some { cls := .none, data := .fields ps' } → (∃ more, ps' = ps ++ more) → TriplesOk ps'.toList →
      wpAny (model X.prog X.w) X.A (builtinsFor X.env.globals X.env.builtins) (fun bi s₄ =>
        ∃ Ia fp wr n₀ Pf St₀ pz F, Value.ref s1.heap.objs.size = .ref Ia ∧ (∀ A' : Around, A'.handled = none → Walks X.prog X.w A' Ia fp wr n₀ Pf St₀) ∧ St₀ 0 s₄.heap ∧ (∀ b ∈ fp, b < s₄.heap.objs.size) ∧ s₄.heap.NoLimit ∧ cStatics ∉ wr ∧
          (∀ href : Heap, (∀ b o, s₄.heap.get? b = some o → href.get? b = some o) →
            QuietGenD X.prog X.w (genEnv scope (cloFrom X.env.cells scope.names []) s₄.heap.objs.size code bi X.env) x [] elt (List.range s₄.heap.objs.size) wr Pf pz F href (X.A.depth + 1) (X.A.units + 8)) ∧
          (∀ a h₅ tk gs, gs.bare = true → s₄.heap.objs.size < a → h₅.objs.size = a + 1 → (∀ b o, s₄.heap.get? b = some o → h₅.get? b = some o) →
            WalksS X.prog X.w X.A.in4 a (a :: s₄.heap.objs.size :: List.range s₄.heap.objs.size) (s₄.heap.objs.size :: wr) (GenOnlyQ s₄.gens.size) (passing pz n₀ 0).length
              (fun j y => ∃ i, (passing pz n₀ 0)[j]? = some i ∧ F i y) (GenAt X.prog X.w X.A.in4 a s₄.gens.size s₄.heap.objs.size (List.range s₄.heap.objs.size) wr pz n₀ F) →
            GenAt X.prog X.w X.A.in4 a s₄.gens.size s₄.heap.objs.size (List.range s₄.heap.objs.size) wr pz n₀ F 0 { s₄ with gens := s₄.gens.push gs, toks := tk, heap := h₅ } →
            Q' (.ref a) { s₄ with gens := s₄.gens.push gs, toks := tk, heap := h₅ })) X.xe { s1 with heap := h3, toks := tk } := by
    intro code h3 tk ps' hx hsz hP3 hmore ht3
    obtain ⟨bm, ob, e1, e2, e3, e4, e5, e6, e7, e8⟩ := TB.bm
    have hcP : cStatics ≠ P := fun e => by
      obtain ⟨_, hns, _⟩ := I1.nolimit
      obtain ⟨o', es, ep, ho, hd, _⟩ := hns
      rw [e, hPs] at ho
      cases ho
      cases hd
    have hcl : cStatics < s1.heap.objs.size := let ⟨_, hns, _⟩ := I1.nolimit; hns.lt
    have sz2 : (s1.heap.push o).objs.size = s1.heap.objs.size + 1 := Heap.size_push ..
    have keep3 : ∀ b u, b ≠ P → s1.heap.get? b = some u → h3.get? b = some u := fun b u hb e => hx b u hb (Heap.get?_push_of_some _ e)
    refine wpAny_builtinsFor (m := X.mg) (by rw [I1.ok.glob]; exact ((I1.mod.glob.keeps I1.bk).push o).extBut hx TB.gP) e1 e2 (keep3 _ _ e4 (I1.bk _ _ e5)) e6 e7 e8 ?_
    have hylP : yl ≠ P := fun z => by
      obtain ⟨_, e, hc1, _, hd1⟩ := _root_.id hIL
      rw [z, hPs] at e
      cases e
      cases hd1
    have hIL3 : h3.IsList yl its.toArray := by
      obtain ⟨ob, e, r⟩ := _root_.id hIL
      exact ⟨ob, keep3 _ _ hylP e, r⟩
    have hItr3 : h3.IsListIter s1.heap.objs.size yl 0 := hitr.at fun u e => hx _ u (Nat.ne_of_gt hPlt) e
    have szh : s1.heap.objs.size < h3.objs.size := by omega
    refine ⟨s1.heap.objs.size, [s1.heap.objs.size, yl], [s1.heap.objs.size], its.toArray.size, (fun i v => its.toArray[i]? = some v), (fun i h => h.IsListIter s1.heap.objs.size yl i ∧ h.IsList yl its.toArray), (fun _ => true),
      (fun i y => RR i y), rfl, (fun A' hA => Walks.list hA _ _ (Nat.ne_of_lt hylt) _), ⟨hItr3, hIL3⟩, ?_, lim2.extBut hx hcP, ?_, ?_, ?_⟩
    · intro b hb
      rcases List.mem_cons.mp hb with z | z
      · rw [z]; exact szh
      · rcases List.mem_cons.mp z with z | z
        · rw [z]; exact Nat.lt_trans hylt szh
        · cases z
    · intro z
      rcases List.mem_cons.mp z with z | z
      · exact Nat.ne_of_lt hcl z
      · cases z
    · intro href hhref
      refine ⟨fun A' E' i v s₂ m₂ hA _ _ hPv hn hm hk => ?_, fun A' E' i v s₂ m₂ hA hD hU hPv hp hn hm hk => ?_⟩
      · simp only [List.forIn_nil]
        exact wpAny_pure ⟨rfl, GxR.keeps_refl _⟩
      · have hv2 : its[i]? = some v := by simpa using hPv
        have hi2 : i < its.length := (List.getElem?_eq_some_iff.mp hv2).1
        obtain ⟨w, hw⟩ : ∃ w, ws[i]? = some w := ⟨ws[i]'(by omega), List.getElem?_eq_getElem _⟩
        obtain ⟨u, hu, ru⟩ := rv.get hw
        rw [hv2] at hu
        cases hu
        have all1 : ∀ b o, b ≠ P → s1.heap.get? b = some o → s₂.heap.get? b = some o := fun b o hb e => by
          have hl := Heap.lt_size e
          refine hk b (List.mem_range.mpr (Nat.lt_trans hl szh)) (fun z => ?_) o (hhref b o (keep3 b o hb e))
          rcases List.mem_cons.mp z with z | z
          · rw [z] at hl
            exact Nat.lt_irrefl _ hl
          · cases z
        have bs : ∀ b o, X.base.get? b = some o → s₂.heap.get? b = some o := fun b o e => all1 b o (fun z => by
          have := (I1.bs b o e).2
          rw [z, hP] at this
          cases this) (I1.bk b o e)
        refine hel pins σ H1 s1 I1 ⟨ps, hP⟩ w (RR i) (hCn i w hw) v ru h3.objs.size code A' hA hD hU E' s₂ ⟨⟨?_, ?_, ?_, ?_⟩, all1, m₂, hn, hm⟩
        · exact I1.mod.kin.keeps bs
        · exact I1.mod.glob.keeps bs
        · obtain ⟨mb, a, b⟩ := I1.mod.blt
          exact ⟨mb, a.keeps bs, b⟩
        · exact I1.mod.nolimit.keeps bs
    · intro g h5 tk5 gs hgb hag hsz5 hk5 W5 hgat
      simp only [GxR.passing_true, List.length_range] at W5
      have hn5 : its.toArray.size = ws.length := by rw [List.size_toArray, hlen]
      rw [hn5] at W5 hgat
      refine hQ ws RR H1 g _ q1 ⟨_, _, _, _, _, W5, hgat, ?_, fun s' hm => ?_⟩
      · intro j v hv
        obtain ⟨i, hij, hF⟩ := hv
        obtain ⟨hj, ej⟩ := List.getElem?_eq_some_iff.mp hij
        rw [List.getElem_range] at ej
        subst ej
        rw [List.length_range] at hj
        exact ⟨by omega, hF⟩
      · obtain ⟨more, em⟩ := hmore
        have nwr : ∀ b u, s1.heap.get? b = some u → b ∉ h3.objs.size :: [s1.heap.objs.size] := fun b u e hb => by
          have hl := Heap.lt_size e
          rcases List.mem_cons.mp hb with z | z
          · rw [z] at hl
            have h9 : (h3.objs.size : Nat) < s1.heap.objs.size := hl
            omega
          · rcases List.mem_cons.mp z with z | z
            · rw [z] at hl
              exact Nat.lt_irrefl _ hl
            · cases z
        have J := GxR.inv_tab (more := more) (h' := s'.heap) (g' := s'.gens) (d' := s'.drawn) (t' := s'.toks) I1 hP (fun b u hb e => hm.heap b u (nwr b u e) (hk5 b u (keep3 b u hb e)))
          (by rw [← em]; exact hm.heap P _ (nwr P _ hPs) (hk5 P _ hP3)) (AllBare.movedS (I1.bare.push hgb) hm)
        rw [GxR.sh_eta s1 s' hm.os] at J
        refine ⟨upd H1 P (.tbl (ps ++ more)), ⟨⟨ps ++ more, upd_same, by rw [← em]; exact ht3⟩, fun b hb => upd_ne hb⟩, J⟩
  refine ⟨lim2, ?_⟩
  cases hf : codeAmong gpos ps.toList with
  | none =>
    refine wpAny_genexprCodeX hcode (cd.code hP2 ht) (cd.tab hP2) hf fun c' h' tk hx hge hlt hco' _ htab' _ => ?_
    obtain ⟨o1, vs, f1, tf, fl, tg, inF, tx, tt, op, _, _, _, _, _, _, _, _, _, htr, _⟩ := hco'
    exact cont _ h' tk _ hx (Nat.le_trans hge (Nat.le_of_lt hlt)) htab'.2 ⟨_, rfl⟩ htr
  | some cv =>
    refine wpAny_genexprCode_hit hcode (cd.code hP2 ht) hf ?_
    exact cont cv (s1.heap.push o) s1.toks ps (Heap.ExtBut.refl _ _) (Nat.le_refl _) hP2 ⟨#[], by simp⟩ ht
/-- at place j -/
def trL (pb : V → Bool) (l : List V) (j : Nat) : Bool := match l[j]? with
  | some w => pb w
  | none => false
theorem all_trL (l : List V) (pb : V → Bool) : (List.range l.length).all (trL pb l) = l.all pb := by
  rw [Bool.eq_iff_iff, List.all_eq_true, List.all_eq_true]
  constructor
  · intro h b hb
    obtain ⟨j, hj, e⟩ := List.getElem_of_mem hb
    have q := h j (List.mem_range.mpr hj)
    unfold trL at q
    rw [List.getElem?_eq_getElem hj, e] at q
    exact q
  · intro h j hj
    have hj' := List.mem_range.mp hj
    unfold trL
    rw [List.getElem?_eq_getElem hj']
    exact h _ (List.getElem_mem hj')
/-- all(elt for x in e) -/
def tAllL (K : PySem.W.Frag) (P : Addr) (Cn : L2.St → Hp → V → (Value → Prop) → Prop) (te : TE) : TE := fun σ H Q => te σ H fun v H1 => ∃ (yl : Addr) (ws : List V) (pb : V → Bool), v = .ref yl ∧ SqL K H1 yl ws ∧ (∀ w ∈ ws, Cn σ H1 w (· = .bool (pb w))) ∧ GxR.TabG H1 P ∧ ∀ H2, GxR.Tabbed P H1 H2 → Q (.bl (ws.all pb)) H2
theorem pe_allL {c P : Addr} {elt iter : Expr} {x : Str} {px p pos gpos : Pos} {scope : Scope} {te : TE} {k : Nat} {Cn : L2.St → Hp → V → (Value → Prop) → Prop}
    (hr : Room k X.A) (hg : Gl X "all") (hm : X.mg "all" = none) (TB : GxR.TabB X.base X.mg c P) (hcode : X.env.code = .ref c) (S : GxR.GenS X.env scope x) (hi : PE X iter te) (hel : EltL X scope x P elt Cn)
    (hs : ∀ v, genFold iter X.env v = pure v)
    (he : starEach [.GeneratorExp elt [⟨.Name x px, iter, [], 0⟩] scope gpos] X.env = (false, eval (.GeneratorExp elt [⟨.Name x px, iter, [], 0⟩] scope gpos) X.env) :: starEach [] X.env := by rfl) :
    PE X (.Call (.Name "all" p) [.GeneratorExp elt [⟨.Name x px, iter, [], 0⟩] scope gpos] [] pos) (tAllL X.K P Cn te) := by
  refine ⟨fun pins s σ H Q I h => ?_⟩
  refine wpAny_Call_Name_kw (ld_blt I hg hm (by with_unfolding_all rfl : bootBuiltins "all" = some (.builtin "all")) ?_)
  refine PyProof.Rows.callWith_builtin1 ?_ he (by rfl)
  rw [he]
  show wpAny _ _ (spliced ((false, eval (.GeneratorExp elt [⟨.Name x px, iter, [], 0⟩] scope gpos) X.env) :: backTo pos (starEach [] X.env))) _ _ s
  refine Calls.spliced_cons (gen_any (Rst := fun ws RR H1 => ∃ pb : V → Bool, RR = (fun i y => ∀ w, ws[i]? = some w → y = .bool (pb w)) ∧ ∀ H2, GxR.Tabbed P H1 H2 → Q (.bl (ws.all pb)) H2) (Cn := fun σ H1 w R => ∃ b : Bool, (∀ y, y = .bool b → R y) ∧ Cn σ H1 w (· = .bool b)) hr TB hcode S hi ?_ hs I h ?_ fun ws RR H1 g s5 hR hG => ?_)
  · intro pins σ H s I hT w R hC u ru C code A h1 h2 h3
    obtain ⟨b, hb, hc⟩ := hC
    intro E s' hg
    exact wpAny_mono (hel pins σ H s I hT w _ hc u ru C code A h1 h2 h3 E s' hg) (fun y s'' r => ⟨hb y r.1, r.2⟩) fun _ _ e => e
  · rintro v H1 ⟨yl, ws, pb, rfl, hl, hC, hT, hq⟩
    exact ⟨yl, ws, _, rfl, hl, fun i w hw => ⟨pb w, fun y hy w' hw' => by rw [hw] at hw'; cases hw'; exact hy, hC w (List.mem_of_getElem? hw)⟩, hT, pb, rfl, hq⟩
  obtain ⟨fp, wr, G, F, St, W, hst, hF, hI⟩ := hG
  obtain ⟨pb, eRR, hq⟩ := hR
  refine Calls.spliced_nil ?_
  have W := W.in4_1
  refine call_all_walkS (W.self 0 _ _ _ hst ⟨g, fp, wr, G, _, F, St, trL pb ws, rfl, W, hst, ?_, fun s' hmv => ?_⟩)
  · intro j y sj Qj Ej hy hQj
    obtain ⟨hj, z⟩ := hF j y hy
    rw [eRR] at z
    rw [z _ (List.getElem?_eq_getElem hj)]
    have e : trL pb ws j = pb ws[j] := by
      unfold trL
      rw [List.getElem?_eq_getElem hj]
    rw [e] at hQj
    exact wpAny_truthy_bool hQj
  · obtain ⟨H2, hT, J⟩ := hI s' hmv
    refine ⟨.bl _, H2, J, rfl, ?_⟩
    rw [all_trL ws pb]
    exact hq H2 hT
end
end Ap


/-! KS: sets of tuples of ints, up to some thousand of them: in, add. -/
namespace Sx
open PySem PySem.Spec PyProof.Rows L2
/-- the masks that a set comes to -/
inductive Msk : Nat → Prop
  | a : Msk 7
  | b : Msk 31
  | c : Msk 127
  | d : Msk 511
  | e : Msk 2047
def marks (m : Nat) : Nat → Nat → Nat → Nat
  | 0, _, acc => acc
  | n + 1, i, acc => marks m n ((i * 5 + 1) % (m + 1)) (acc ||| 2 ^ i)
theorem lcgI_front (m : Nat) : ∀ (k i : Nat), lcgI m ((i * 5 + 1) % (m + 1)) k = lcgI m i (k + 1)
  | 0, _ => rfl
  | k + 1, i => congrArg (fun z => (z * 5 + 1) % (m + 1)) (lcgI_front m k i)
theorem marks_bit (m : Nat) : ∀ (n i acc j : Nat), (marks m n i acc).testBit j = true → acc.testBit j = true ∨ ∃ k, k < n ∧ lcgI m i k = j
  | 0, _, _, _, h => .inl h
  | n + 1, i, acc, j, h => by
    rcases marks_bit m n _ _ j h with g | ⟨k, hk, g⟩
    · rw [Nat.testBit_or, Bool.or_eq_true] at g
      rcases g with g | g
      · exact .inl g
      · rw [Nat.testBit_two_pow] at g
        exact .inr ⟨0, Nat.succ_pos n, of_decide_eq_true g⟩
    · exact .inr ⟨k + 1, Nat.succ_lt_succ hk, by rw [← lcgI_front]; exact g⟩
theorem marks_all {m : Nat} (hm : Msk m) : marks m (m + 1) 0 0 = 2 ^ (m + 1) - 1 := by
  cases hm <;> decide +kernel
def spin (m : Nat) : Nat → Nat → Nat
  | 0, i => i
  | n + 1, i => spin m n ((i * 5 + 1) % (m + 1))
theorem spin_lcg (m : Nat) : ∀ (n i : Nat), spin m n i = lcgI m i n
  | 0, _ => rfl
  | n + 1, i => (spin_lcg m n _).trans (lcgI_front m n i)
theorem spin_back {m : Nat} (hm : Msk m) : spin m (m + 1) 0 = 0 := by
  cases hm <;> decide +kernel

theorem zeroI (m : Nat) : ∀ k, lcgI m 0 k = lcgN m k
  | 0 => rfl
  | k + 1 => congrArg (fun z => (z * 5 + 1) % (m + 1)) (zeroI m k)
theorem hit0 {m j : Nat} (hm : Msk m) (hj : j ≤ m) : ∃ k, k ≤ m ∧ lcgN m k = j := by
  have q : (marks m (m + 1) 0 0).testBit j = true := by
    rw [marks_all hm, Nat.testBit_two_pow_sub_one]
    exact decide_eq_true (Nat.lt_succ_of_le hj)
  rcases marks_bit m _ _ _ j q with g | ⟨k, hk, g⟩
  · rw [Nat.zero_testBit] at g; cases g
  · exact ⟨k, Nat.le_of_lt_succ hk, (zeroI m k).symm.trans g⟩
theorem around {m : Nat} (hm : Msk m) (k : Nat) : lcgN m (m + 1 + k) = lcgN m k := by
  have z : lcgN m (m + 1) = 0 := by rw [← zeroI, ← spin_lcg]; exact spin_back hm
  have q := lcgN_add m (m + 1) k
  rw [z, zeroI] at q
  exact q.symm
/-- from i on j comes within a turn -/
theorem hitI {m i j : Nat} (hm : Msk m) (hi : i ≤ m) (hj : j ≤ m) : ∃ k, k ≤ m ∧ lcgI m i k = j := by
  obtain ⟨u, hu, rfl⟩ := hit0 hm hi
  obtain ⟨v, hv, rfl⟩ := hit0 hm hj
  by_cases c : u ≤ v
  · exact ⟨v - u, by omega, by rw [lcgN_add, Nat.add_sub_cancel' c]⟩
  · refine ⟨m + 1 + v - u, by omega, ?_⟩
    rw [lcgN_add, Nat.add_sub_cancel' (by omega), around hm]
/-- the j-th slot begins a run soon -/
theorem begins {m j : Nat} (hm : Msk m) (h : Int) (hj : j ≤ m) : ∃ n, n < SetTable.turns m ∧ runI m (SetTable.bits h) n = j := by
  have le := runI_le m (SetTable.bits h) 12
  obtain ⟨k, hk, g⟩ := hitI hm le hj
  exact ⟨12 + k, by unfold SetTable.turns; omega, (runI_tail (bits_lt h) k).trans g⟩
theorem way_in (m : Nat) (h : Int) (k : Nat) : way m h k ≤ m := by
  have lt : SetTable.bits h % (m + 1) < m + 1 := Nat.mod_lt _ (Nat.succ_pos m)
  have rb := runEnd_bd (Nat.le_of_lt_succ lt)
  have st : (runAt m (SetTable.bits h % (m + 1)) (SetTable.bits h)).j + (runAt m (SetTable.bits h % (m + 1)) (SetTable.bits h)).more ≤ m := by
    show SetTable.bits h % (m + 1) + (SetTable.runEnd m (SetTable.bits h % (m + 1)) - SetTable.bits h % (m + 1)) ≤ m
    omega
  exact Nat.le_trans (Nat.le_add_right _ _) (nth_in k _ st)
/-- a place that is left on the way, the first one; N runs lead there -/
theorem first_left {m : Nat} (hm : Msk m) (h : Int) (taken : Nat → Prop) {j : Nat} (hj : j ≤ m) (free : ¬ taken j) :
    ∃ K n, n < SetTable.turns m ∧ K ≤ off m (SetTable.bits h % (m + 1)) (SetTable.bits h) n ∧ K ≤ 10 * n ∧ ¬ taken (way m h K) ∧ ∀ k, k < K → taken (way m h k) := by
  obtain ⟨n, hn, g⟩ := begins hm h hj
  obtain ⟨k, hk, g2⟩ := run_nth m (SetTable.bits h) n
  have at1 : way m h k = j := by
    show (nth m (runAt m _ _) k).j = j
    rw [g2]; exact g
  have at2 : way m h (off m (SetTable.bits h % (m + 1)) (SetTable.bits h) n) = j := by
    show (nth m (runAt m _ _) _).j = j
    rw [nth_off, itL_run]; exact g
  obtain ⟨K, a, b, c⟩ := st_least (p := fun k => ¬ taken (way m h k)) k (by rw [show way m h k = j from at1]; exact free)
  refine ⟨K, n, hn, Nat.le_of_not_lt fun z => c _ z (by rw [at2]; exact free), Nat.le_trans a hk, b, fun k' hk' => ?_⟩
  exact Classical.byContradiction (c k' hk')

/-! ### all laid anew -/
theorem put_self {ow : Array (Option Nat)} {z : Nat} (v : Nat) (hz : z < ow.size) : oAt (ow.setIfInBounds z (some v)) z = some v := oAt_set_self _ hz
theorem own_more {m : Nat} (hm : Msk m) {ds : List Int} {ow : Array (Option Nat)} (W : Own m ds ow) (few : ds.length ≤ m) (h : Int) :
    ∃ z, SetTable.layClean.free m ow (SetTable.turns m) (SetTable.bits h % (m + 1)) (SetTable.bits h) = some z ∧ Own m (ds ++ [h]) (ow.setIfInBounds z (some ds.length)) := by
  obtain ⟨ps, pl, pin⟩ := W.ps
  obtain ⟨y, yl, yn⟩ := st_missing ps (m + 1) (by omega)
  have yf : ¬ oAt ow y ≠ none := fun c => yn (pin y (Nat.le_of_lt_succ yl) c)
  obtain ⟨K, n, hn, hK, _, fr, oc⟩ := first_left hm h (fun j => oAt ow j ≠ none) (Nat.le_of_lt_succ yl) yf
  have fr : oAt ow (way m h K) = none := Classical.byContradiction fr
  have g := free_spec m ow (SetTable.turns m) n (SetTable.bits h % (m + 1)) (SetTable.bits h) K hn hK
    (fun k hk => by
      cases e : oAt ow (nth m (runAt m (SetTable.bits h % (m + 1)) (SetTable.bits h)) k).j with
      | some _ => rfl
      | none => exact absurd e (oc k hk)) (by show (oAt ow (way m h K)).isNone = true; rw [fr]; rfl)
  refine ⟨way m h K, g, ?_⟩
  have inb : way m h K < ow.size := by rw [W.sz]; exact Nat.lt_succ_of_le (way_in m h K)
  have self := put_self ds.length inb
  have still : ∀ z, oAt ow z ≠ none → oAt (ow.setIfInBounds (way m h K) (some ds.length)) z ≠ none := fun z hz => by
    by_cases c : z = way m h K
    · subst c; rw [self]; exact Option.some_ne_none _
    · rw [oAt_set_ne _ c]; exact hz
  constructor
  · rw [Array.size_setIfInBounds]; exact W.sz
  · intro z v hz e
    by_cases c : z = way m h K
    · subst c
      rw [self] at e
      cases e
      exact ⟨h, K, by simp, rfl, fun k hk => still _ (oc k hk)⟩
    · rw [oAt_set_ne _ c] at e
      obtain ⟨h2, K2, r1, r2, r3⟩ := W.at_ z v hz e
      have lt := (List.getElem?_eq_some_iff.mp r1).1
      exact ⟨h2, K2, by rw [List.getElem?_append_left lt, r1], r2, fun k hk => still _ (r3 k hk)⟩
  · intro v hv
    by_cases c : v = ds.length
    · subst c
      exact ⟨_, way_in m h K, self⟩
    · obtain ⟨z, hz, e⟩ := W.all v (by simp at hv; omega)
      exact ⟨z, hz, by rw [oAt_set_ne _ fun q => by rw [q, fr] at e; cases e]; exact e⟩
  · refine ⟨way m h K :: ps, by simp [pl], fun z hz e => ?_⟩
    by_cases c : z = way m h K
    · rw [c]; exact List.mem_cons_self
    · rw [oAt_set_ne _ c] at e
      exact List.mem_cons_of_mem _ (pin z hz e)
theorem own_all {m : Nat} (hm : Msk m) : ∀ (rs ds : List Int) (ow : Array (Option Nat)), Own m ds ow → ds.length + rs.length ≤ m →
    ∃ ow', rs.foldl (stepF m) (some (ow, ds.length)) = some (ow', (ds ++ rs).length) ∧ Own m (ds ++ rs) ow'
  | [], ds, ow, W, _ => by rw [List.append_nil]; exact ⟨ow, rfl, W⟩
  | h :: rs, ds, ow, W, few => by
    simp only [List.length_cons] at few
    obtain ⟨z, e, W2⟩ := own_more hm W (by omega) h
    have len : (ds ++ [h]).length = ds.length + 1 := by simp
    obtain ⟨ow', f, W3⟩ := own_all hm rs _ _ W2 (by omega)
    rw [len, List.append_assoc] at f
    rw [List.append_assoc] at W3
    exact ⟨ow', by rw [List.foldl_cons, stepF_some e]; exact f, W3⟩
theorem clean {m : Nat} (hm : Msk m) {hs : Array Int} (few : hs.size ≤ m) : ∃ ow, SetTable.layClean m hs = some ow ∧ Own m hs.toList ow := by
  obtain ⟨ow, f, W⟩ := own_all hm hs.toList [] _ (Own.init m) (by simpa using few)
  refine ⟨ow, ?_, W⟩
  rw [layClean_eq]
  simp only [List.length_nil] at f
  rw [f]; rfl
/-- each hash is found again on its way -/
structure Laid (t : SetTable) (hs : List Int) : Prop where
  up : Ris t.place.toList
  nod : t.dummies = #[]
  cnt : t.place.size = hs.length
  msk : Msk t.mask
  near : ∀ (i : Nat) (h : Int) (j : Nat), hs[i]? = some h → t.place.toList[i]? = some j → ∃ k, way t.mask h k = j ∧ ∀ k', k' < k → way t.mask h k' ∈ t.place.toList
theorem anew (t : SetTable) {hs : Array Int} {wish M : Nat} (hw : SetTable.sizeAbove wish - 1 = M) (hM : Msk M) (few : hs.size ≤ M) :
    ∃ t' od, t.relaid hs wish = some (t', od) ∧ od.toList.Perm (List.range hs.size) ∧ Laid t' (od.toList.map fun i => hs.getD i 0) ∧ t'.mask = M ∧ t'.led = t.led ∧ t'.plain = t.plain := by
  obtain ⟨ow, e, W⟩ := clean hM few
  have eR : t.relaid hs wish = some (tabOf t M ow, ((liveOf M ow).map (·.2)).toArray) := by
    rw [relaid_eq, hw, e]; rfl
  obtain ⟨up, _⟩ := ris_live (fun j => ow.getD j none) (List.range (M + 1)) List.pairwise_lt_range
  have up : Ris ((liveOf M ow).map (·.1)) := up
  have num : (liveOf M ow).length = hs.size := by
    obtain ⟨ps, pl, pin⟩ := W.ps
    have le1 : ((liveOf M ow).map (·.1)).length ≤ ps.length := by
      refine nat_nodup_len _ _ (up.imp Nat.ne_of_lt) fun z hz => ?_
      obtain ⟨⟨z', v⟩, hq, rfl⟩ := List.mem_map.mp hz
      obtain ⟨a, b⟩ := (mem_live W.sz).mp hq
      exact pin _ a (by rw [b]; exact Option.some_ne_none _)
    have le2 : (List.range hs.size).length ≤ ((liveOf M ow).map (·.2)).length := by
      refine nat_nodup_len _ _ List.nodup_range fun v hv => ?_
      obtain ⟨z, a, b⟩ := W.all v (by simpa using hv)
      exact List.mem_map.mpr ⟨(z, v), (mem_live W.sz).mpr ⟨a, b⟩, rfl⟩
    simp at le1 le2 pl
    omega
  refine ⟨_, _, eR, perm_range _ _ (by simpa using num) fun v hv => ?_, ⟨up, rfl, by simp [tabOf], hM, fun i h j e1 e2 => ?_⟩, rfl, rfl, rfl⟩
  · obtain ⟨z, a, b⟩ := W.all v (by simpa using hv)
    exact List.mem_map.mpr ⟨(z, v), (mem_live W.sz).mpr ⟨a, b⟩, rfl⟩
  · have e1 : ((liveOf M ow).map fun q => hs.getD q.2 0)[i]? = some h := by simpa using e1
    have e2 : ((liveOf M ow).map (·.1))[i]? = some j := e2
    rw [List.getElem?_map] at e1 e2
    obtain ⟨⟨z, v⟩, hq, rfl⟩ := Option.map_eq_some_iff.mp e2
    rw [hq] at e1
    cases e1
    obtain ⟨a, b⟩ := (mem_live W.sz).mp (List.mem_of_getElem? hq)
    obtain ⟨h2, K, r1, r2, r3⟩ := W.at_ z v a b
    have eh : hs.getD v 0 = h2 := by
      rw [Array.getD_eq_getD_getElem?, ← Array.getElem?_toList, r1]; rfl
    refine ⟨K, by rw [← r2]; exact congrArg (fun q => way M q K) eh, fun k hk => ?_⟩
    show way M (hs.getD v 0) k ∈ (liveOf M ow).map (·.1)
    rw [eh]
    obtain ⟨v2, e3⟩ := Option.ne_none_iff_exists'.mp (r3 k hk)
    exact List.mem_map.mpr ⟨(_, v2), (mem_live W.sz).mpr ⟨way_in M h2 k, e3⟩, rfl⟩

theorem Laid.gap {t : SetTable} {hs : List Int} (T : Laid t hs) (few : hs.length ≤ t.mask) (h : Int) : ∃ K, K < 10 * SetTable.turns t.mask ∧ way t.mask h K ∉ t.place.toList ∧ ∀ k, k < K → way t.mask h k ∈ t.place.toList := by
  obtain ⟨j, hj, nj⟩ := st_missing t.place.toList (t.mask + 1) (by have := T.cnt; simp; omega)
  obtain ⟨K, n, hn, _, hK, a, b⟩ := first_left T.msk h (· ∈ t.place.toList) (Nat.le_of_lt_succ hj) nj
  exact ⟨K, by omega, a, b⟩
theorem Laid.ahead {t : SetTable} {hs : List Int} (T : Laid t hs) {h : Int} {K i : Nat} (gap : way t.mask h K ∉ t.place.toList) (hi : hs[i]? = some h) : ∃ k, k < K ∧ t.place.toList[i]? = some (way t.mask h k) := by
  have lt : i < t.place.toList.length := by
    have := (List.getElem?_eq_some_iff.mp hi).1
    rw [Array.length_toList, T.cnt]; exact this
  have at_ := List.getElem?_eq_getElem lt
  obtain ⟨k, ek, bk⟩ := T.near i h _ hi at_
  refine ⟨k, Nat.lt_of_not_le fun z => ?_, by rw [ek]; exact at_⟩
  rcases Nat.lt_or_eq_of_le z with z | z
  · exact gap (bk K z)
  · rw [z, ek] at gap
    exact gap (List.mem_of_getElem? at_)
/-- one more, at the first gap of its way -/
theorem Laid.more {t : SetTable} {hs : List Int} (T : Laid t hs) {h : Int} {K : Nat} (gap : way t.mask h K ∉ t.place.toList) (oc : ∀ k, k < K → way t.mask h k ∈ t.place.toList) :
    (t.put (way t.mask h K)).2 = SetTable.below t.place (way t.mask h K) ∧ SetTable.below t.place (way t.mask h K) ≤ hs.length ∧
    Laid (t.put (way t.mask h K)).1 (hs.take (SetTable.below t.place (way t.mask h K)) ++ h :: hs.drop (SetTable.below t.place (way t.mask h K))) ∧ (t.put (way t.mask h K)).1.fill = hs.length + 1 := by
  generalize ez : way t.mask h K = z at gap ⊢
  obtain ⟨bl, _, _⟩ := below_cut T.up z
  have bh : SetTable.below t.place z ≤ hs.length := T.cnt ▸ bl
  have bp : SetTable.below t.place z ≤ t.place.toList.length := by rw [Array.length_toList]; exact bl
  have pl := put_place t z
  have np : t.place[SetTable.below t.place z]? ≠ some z := fun q => gap (List.mem_of_getElem? ((Array.getElem?_toList ..).trans q))
  have sz : (t.put z).1.place.size = hs.length + 1 := by
    rw [← Array.length_toList, pl, len_ins _ bp, Array.length_toList, T.cnt]
  have dm := put_dm T.nod z
  have still : ∀ y, y ∈ t.place.toList → y ∈ (t.put z).1.place.toList := fun y hy => by rw [pl]; exact mem_ins.mpr (.inr hy)
  refine ⟨rfl, bh, ⟨ris_insert T.up np, dm, by rw [len_ins _ bh]; exact sz, T.msk, fun i h' j e1 e2 => ?_⟩, ?_⟩
  · have cut : ∀ i', hs[i']? = some h' → t.place.toList[i']? = some j → ∃ k, way t.mask h' k = j ∧ ∀ k', k' < k → way t.mask h' k' ∈ (t.put z).1.place.toList := fun i' a b => by
      obtain ⟨k, ek, bk⟩ := T.near i' h' j a b
      exact ⟨k, ek, fun k' hk' => still _ (bk k' hk')⟩
    rw [tins_get hs bh] at e1
    rw [pl, tins_get _ bp] at e2
    show ∃ k, way t.mask h' k = j ∧ _
    split at e1
    · rename_i c
      rw [if_pos c] at e2
      exact cut _ e1 e2
    · rename_i c
      rw [if_neg c] at e2
      split at e1
      · rename_i d
        rw [if_pos d] at e2
        cases e1
        cases e2
        exact ⟨K, ez, fun k hk => still _ (oc k hk)⟩
      · rename_i d
        rw [if_neg d] at e2
        exact cut _ e1 e2
  · show (t.put z).1.place.size + (t.put z).1.dummies.size = _
    rw [sz, dm]; rfl
/-! ### the set at a -/
structure SetP (P : Program) (w : World) (h : Heap) (a : Addr) (L : List (Addr × List Int)) (es : Array (Int × Value)) (ep : Nat) (t : SetTable) : Prop where
  ob : ∃ o, h.get? a = some o ∧ o.ExactSet ∧ o.data = .set es ep t
  rows : es.toList = rowsOf P w L
  tab : Laid t (L.map fun p => thash P w p.2)
  one : (L.map (·.2)).Nodup
  pln : t.plain = true
  led : w.params.followText "set-order" = true ∨ t.led = true
  wide : L.length * 5 < t.mask * 3
  few : L.length ≤ 1000
section
variable {P : Program} {w : World} {A : Around} {E : Value → Shared → Prop} {s : Shared} {a : Addr} {L : List (Addr × List Int)} {es : Array (Int × Value)} {ep : Nat} {t : SetTable}
theorem rows_len {es : Array (Int × Value)} (h : es.toList = rowsOf P w L) : es.size = L.length := by
  rw [← Array.length_toList, h]; exact List.length_map ..
theorem fits_of {t : SetTable} {n : Nat} (h1 : t.place.size = n) (h2 : t.dummies = #[]) (h3 : n ≤ t.mask) : t.fits n = true := by
  simp [SetTable.fits, SetTable.fill, h1, h2, h3]
theorem SetP.fits (R : SetP P w s.heap a L es ep t) : t.fits es.size = true := by
  have c := R.tab.cnt
  have z := R.wide
  rw [List.length_map] at c
  rw [rows_len R.rows]
  exact fits_of c R.tab.nod (by omega)
theorem SetP.at_ (R : SetP P w s.heap a L es ep t) {i : Nat} {p : Addr × List Int} (h : L[i]? = some p) : es[i]? = some (thash P w p.2, Value.ref p.1) := by
  rw [← Array.getElem?_toList, R.rows, rowsOf, List.getElem?_map, h]; rfl
theorem SetP.firm (R : SetP P w s.heap a L es ep t) : ¬ t.gaveWay = true := by
  have : ∀ m, Msk m → ¬ (m % 2 == 0) = true := fun m hm => by cases hm <;> decide
  exact this _ R.tab.msk
theorem nth_free (m : Nat) : ∀ (n : Nat) (p : SetTable.Probe), p.dummy = none → (nth m p n).dummy = none
  | 0, _, h => h
  | n + 1, p, h => nth_free m n (adv m p) (by unfold adv; split <;> exact h)
/-- a search, from the c-th step of the key's way on -/
theorem seek (R : SetP P w s.heap a L es ep t) (tup : ∀ p ∈ L, IsT P w s.heap p.2 p.1) {x : Addr} {k : List Int} (hx : IsT P w s.heap k x) (hu : A.units < cLine) (ad : Bool) {st : SetTable.Probe} (est : st = runAt t.mask (SetTable.bits (thash P w k) % (t.mask + 1)) (SetTable.bits (thash P w k)))
    {K : Nat} (lt : K < 10 * SetTable.turns t.mask) (gap : (nth t.mask st K).j ∉ t.place.toList) (oc : ∀ c, c < K → (nth t.mask st c).j ∈ t.place.toList) {Q : SetFound → Shared → Prop}
    (yes : k ∈ L.map (·.2) → ∀ i, Q (.there (if ad = true then none else some i)) s) (no : k ∉ L.map (·.2) → Q (.free (nth t.mask st K).j false) s) :
    ∀ (f c : Nat) (go : Option SetTable.Probe), go.getD (t.probeStart (thash P w k)) = nth t.mask st c → c ≤ K → K - c < f →
      (∀ (i : Nat) p, L[i]? = some p → p.2 = k → ∃ c', c ≤ c' ∧ c' < K ∧ t.place.toList[i]? = some (nth t.mask st c').j) →
      wpAny (model P w) A (setSearchFrom a (.ref x) (thash P w k) ad f go) Q E s
  | 0, _, _, _, _, z, _ => absurd z (Nat.not_lt_zero _)
  | f + 1, c, go, ego, hc, hf, left => by
    obtain ⟨o, ho, hex, hd⟩ := R.ob
    rw [setSearchFrom_succ]
    refine wpAny_bind (wpAny_setState_of ho hd R.fits ?_)
    dsimp only
    refine wp_if_neg R.firm ?_
    try refine wpAny_bind (wpAny_pure ?_)
    have sh : ∀ q, nth t.mask (nth t.mask st c) q = nth t.mask st (c + q) := fun q => (nth_add t.mask c st q).symm
    have eK : c + (K - c) = K := Nat.add_sub_cancel' hc
    have free := nth_free t.mask c st (by rw [est]; rfl)
    have hA : ∀ {i : Nat} {p : Addr × List Int}, L[i]? = some p → (fun i => (es[i]?.map (·.1)).getD 0) i = thash P w p.2 := fun {i p} hp => by
      simp only [R.at_ hp]; rfl
    have spec := go_spec t R.tab.up R.tab.nod (fun i => (es[i]?.map (·.1)).getD 0) (thash P w k) (10 * SetTable.turns t.mask) (K - c) (nth t.mask st c) free (by omega)
      (fun q hq => by rw [sh]; exact oc _ (by omega)) (by rw [sh, eK]; exact gap)
    have pass : ∀ {q i0 : Nat} {p0 : Addr × List Int}, (∀ (k' i' : Nat), k' < q → t.place.toList[i']? = some (nth t.mask (nth t.mask st c) k').j → (es[i']?.map (·.1)).getD 0 ≠ thash P w k) → L[i0]? = some p0 → p0.2 = k →
        ∃ c', c + q ≤ c' ∧ c' < K ∧ t.place.toList[i0]? = some (nth t.mask st c').j := fun {q i0 p0} none h0 hk => by
      obtain ⟨c', l1, l2, l3⟩ := left i0 p0 h0 hk
      refine ⟨c', Nat.le_of_not_lt fun z => ?_, l2, l3⟩
      exact none (c' - c) i0 (by omega) (by rw [sh, Nat.add_sub_cancel' l1]; exact l3) ((hA h0).trans (by rw [hk]))
    rcases spec with ⟨q, i, hq, hi, _, nun, met⟩ | ⟨nun, met⟩
    · have met : t.probe (fun i => (es[i]?.map (·.1)).getD 0) (thash P w k) (go.getD (t.probeStart (thash P w k))) = some (.candidate (nth t.mask st (c + q)).j i (nth t.mask st (c + (q + 1)))) := by
        rw [ego, ← sh, ← sh]; exact met
      rw [met]
      dsimp only
      rw [sh] at hi
      have il : i < L.length := by
        have z := (List.getElem?_eq_some_iff.mp hi).1
        have c := R.tab.cnt
        simp at c z
        omega
      obtain ⟨p, hp⟩ : ∃ p, L[i]? = some p := ⟨_, List.getElem?_eq_getElem il⟩
      have pin := List.mem_of_getElem? hp
      have live : t.slot (nth t.mask st (c + q)).j = .live i := slot_live R.tab.up hi
      have behind : wpAny (model P w) A (searchRest a (.ref x) (thash P w k) ad f es t (nth t.mask st (c + q)).j i (nth t.mask st (c + (q + 1)))) Q E s := by
        unfold searchRest
        rw [R.at_ hp]
        dsimp only
        refine wpAny_bind (wpAny_holding (wpAny_eqBool_tuple hu (tup p pin) hx ?_))
        refine wpAny_bind (wpAny_setState_of ho hd R.fits ?_)
        dsimp only
        by_cases same : p.2 = k
        · have there := yes (List.mem_map.mpr ⟨p, pin, same⟩) i
          cases ad with
          | true =>
            refine wp_if_pos (by simp [same]) ?_
            exact wpAny_pure there
          | false =>
            refine wp_if_neg (by simp) ?_
            try refine wpAny_bind (wpAny_pure ?_)
            rw [sameMem]
            dsimp only
            simp only [if_true, live, R.at_ hp]
            refine wpAny_bind (wpAny_isSame_ref_self (wpAny_bind (wpAny_pure ?_)))
            simp only [if_true]
            refine wp_if_pos (by simp [same]) ?_
            exact wpAny_pure there
        · refine wp_if_neg (by simp [same]) ?_
          try refine wpAny_bind (wpAny_pure ?_)
          rw [sameMem]
          dsimp only
          simp only [if_true, live, R.at_ hp]
          refine wpAny_bind (wpAny_isSame_ref_self (wpAny_bind (wpAny_pure ?_)))
          simp only [if_true]
          refine wp_if_neg (by simp [same]) ?_
          refine seek R tup hx hu ad est lt gap oc yes no f (c + (q + 1)) _ rfl (by omega) (by omega) fun i0 p0 h0 hk => ?_
          obtain ⟨c', l1, l2, l3⟩ := pass nun h0 hk
          refine ⟨c', Nat.lt_of_le_of_ne l1 fun z => ?_, l2, l3⟩
          rw [← z] at l3
          have e := live.symm.trans (slot_live R.tab.up l3)
          cases e
          rw [hp] at h0
          cases h0
          exact same hk
      by_cases hl : t.led = true
      · refine wp_if_neg (by simp [hl]) ?_
        try refine wpAny_bind (wpAny_pure ?_)
        exact behind
      · refine wp_if_pos (by simp [hl]) ?_
        refine wpAny_bind (seen_tup hx (fun y hy => ?_) (wp_if_neg (by decide) ?_))
        · obtain ⟨e, he, rfl⟩ := List.mem_map.mp hy
          have he : e ∈ es.toList := by simp at he; simpa using he.1
          rw [R.rows] at he
          obtain ⟨p2, h2, rfl⟩ := List.mem_map.mp he
          exact ⟨p2.2, p2.1, rfl, tup p2 h2⟩
        · try refine wpAny_bind (wpAny_pure ?_)
          exact behind
    · have met : t.probe (fun i => (es[i]?.map (·.1)).getD 0) (thash P w k) (go.getD (t.probeStart (thash P w k))) = some (.empty (nth t.mask st K).j none) := by
        rw [sh, eK] at met
        rw [ego]; exact met
      rw [met]
      dsimp only
      refine wpAny_pure (no fun hm => ?_)
      obtain ⟨p0, h0, hk⟩ := List.mem_map.mp hm
      obtain ⟨i0, hi0, e0⟩ := List.getElem_of_mem h0
      obtain ⟨c', l1, l2, _⟩ := pass nun ((List.getElem?_eq_getElem hi0).trans (congrArg some e0)) hk
      omega

theorem search_b (R : SetP P w s.heap a L es ep t) (tup : ∀ p ∈ L, IsT P w s.heap p.2 p.1) {x : Addr} {k : List Int} (hx : IsT P w s.heap k x) (hu : A.units < cLine) (ad : Bool) {Q : SetFound → Shared → Prop}
    (yes : k ∈ L.map (·.2) → ∀ i, Q (.there (if ad = true then none else some i)) s)
    (no : ∀ K, k ∉ L.map (·.2) → way t.mask (thash P w k) K ∉ t.place.toList → (∀ c, c < K → way t.mask (thash P w k) c ∈ t.place.toList) → Q (.free (way t.mask (thash P w k) K) false) s) :
    wpAny (model P w) A (setSearch a (.ref x) (thash P w k) ad) Q E s := by
  have z := R.wide
  have z2 := R.few
  obtain ⟨K, lt, gap, oc⟩ := R.tab.gap (by rw [List.length_map]; omega) (thash P w k)
  have small : K < 100000 := by
    have : ∀ m, Msk m → 10 * SetTable.turns m < 100000 := fun m hm => by cases hm <;> decide
    exact Nat.lt_trans lt (this _ R.tab.msk)
  refine seek R tup hx hu ad rfl lt gap oc yes (fun n => no K n gap oc) 100000 0 none rfl (Nat.zero_le K) small fun i p hp hk => ?_
  obtain ⟨c, l, e⟩ := R.tab.ahead gap (i := i) (h := thash P w k) (by rw [List.getElem?_map, hp, ← hk]; rfl)
  exact ⟨c, Nat.zero_le c, l, e⟩
theorem grown_mask {m n : Nat} (hm : Msk m) (few : n ≤ 1000) (h1 : n * 5 < m * 3) (h2 : ¬ (n + 1) * 5 < m * 3) : ∃ M, SetTable.sizeAbove (SetTable.grown (n + 1)) - 1 = M ∧ Msk M ∧ SetTable.sizeAbove (SetTable.grown (n + 1)) ≤ 2048 ∧ (n + 1) * 5 < M * 3 := by
  cases hm with
  | a =>
    obtain rfl : n = 4 := by omega
    exact ⟨31, by decide +kernel, .b, by decide +kernel, by decide⟩
  | b =>
    obtain rfl : n = 18 := by omega
    exact ⟨127, by decide +kernel, .c, by decide +kernel, by decide⟩
  | c =>
    obtain rfl : n = 76 := by omega
    exact ⟨511, by decide +kernel, .d, by decide +kernel, by decide⟩
  | d =>
    obtain rfl : n = 306 := by omega
    exact ⟨2047, by decide +kernel, .e, by decide +kernel, by decide⟩
  | e => omega
theorem relay_b {o : Obj} (ho : s.heap.get? a = some o) (hex : o.ExactSet) (hd : o.data = .set es ep t) (rows : es.toList = rowsOf P w L) (cnt : t.place.size = es.size) (nod : t.dummies = #[]) (inn : es.size ≤ t.mask)
    (one : (L.map (·.2)).Nodup) (pln : t.plain = true) (led : w.params.followText "set-order" = true ∨ t.led = true) (few : L.length ≤ 1000) {wish M : Nat} (hw : SetTable.sizeAbove wish - 1 = M) (hM : Msk M) (hw2 : SetTable.sizeAbove wish ≤ 2048) (wide : L.length * 5 < M * 3)
    {Q : Unit → Shared → Prop} (q : ∀ h' L' es' ep' t', Heap.SameBut a s.heap h' → SetP P w h' a L' es' ep' t' → L'.Perm L → Q () { s with heap := h' }) : wpAny (model P w) A (setRelay a wish) Q E s := by
  have len := rows_len rows
  obtain ⟨t', od, eR, pm, T, e1, e2, e3⟩ := anew t (hs := es.map (·.1)) hw hM (by simp; omega)
  simp only [Array.size_map, len] at pm
  obtain ⟨L2, r1, r2, r3⟩ := order_rows L es od rows pm
  have len2 : (od.filterMap (es[·]?)).size = es.size := by rw [rows_len r1, r2.length_eq, len]
  rw [setRelay_eq]
  refine wpAny_bind (wpAny_setState_of ho hd (fits_of cnt nod inn) ?_)
  dsimp only
  refine wp_if_neg (by rw [sizeLine_eq]; omega) ?_
  try refine wpAny_bind (wpAny_pure ?_)
  rw [eR]
  dsimp only
  refine wpAny_bind (wp_if_neg (by simp [len2]) ?_)
  try refine wpAny_bind (wpAny_pure ?_)
  refine wpAny_pure ?_
  dsimp only
  refine wpAny_storeSet_of ho hd ?_ (by rw [len2, len, sizeLine_eq]; omega)
  refine q _ L2 _ (ep + 1) t' (Heap.SameBut.update ..) ⟨⟨_, store_at ho hd, ⟨hex.1, hex.2.1, hex.2.2⟩, rfl⟩, r1, by rw [r3]; exact T, (r2.map (·.2)).nodup_iff.mpr one, e3.trans pln, ?_, ?_, r2.length_eq ▸ few⟩ r2
  · rw [e2]; exact led
  · rw [e1, r2.length_eq]; exact wide
/-- a tuple is put in -/
theorem add_b (R : SetP P w s.heap a L es ep t) (tup : ∀ p ∈ L, IsT P w s.heap p.2 p.1) {x : Addr} {k : List Int} (hx : IsT P w s.heap k x) (hu : A.units < cLine) (few : L.length + 1 ≤ 1000) {Q : Bool → Shared → Prop}
    (q : ∀ b h' L' es' ep' t', Heap.SameBut a s.heap h' → SetP P w h' a L' es' ep' t' → (k ∈ L.map (·.2) → L' = L) → (k ∉ L.map (·.2) → L'.Perm ((x, k) :: L)) → Q b { s with heap := h' }) :
    wpAny (model P w) A (setAddHashed a (.ref x) (thash P w k)) Q E s := by
  obtain ⟨o, ho, hex, hd⟩ := R.ob
  have len := rows_len R.rows
  have z := R.wide
  refine wpAny_holding ?_
  rw [show (100000 : Nat) = Nat.succ 99999 from rfl, setAddHashedIn_succ]
  refine wpAny_bind (wpAny_setState_of ho hd R.fits ?_)
  dsimp only
  refine wp_if_neg (by simp [Value.scannable, byScan]) ?_
  try refine wpAny_bind (wpAny_pure ?_)
  refine wpAny_bind (search_b R tup hx hu true (fun m _ => wpAny_pure (q false s.heap L es ep t (Heap.SameBut.refl _ _) R (fun _ => rfl) fun n => absurd m n)) fun K n gap oc => ?_)
  dsimp only
  refine wpAny_bind (wpAny_setState_of ho hd R.fits ?_)
  dsimp only
  obtain ⟨q1, q2, q3, q4⟩ := R.tab.more gap oc
  have g1 : (t.put (way t.mask (thash P w k) K)).1.plain = true := R.pln
  have g2 : (t.put (way t.mask (thash P w k) K)).1.led = t.led := rfl
  have g3 : (t.put (way t.mask (thash P w k) K)).1.mask = t.mask := rfl
  rw [List.length_map] at q2 q4
  generalize t.put (way t.mask (thash P w k) K) = pt at *
  obtain ⟨t1, p⟩ := pt
  dsimp only at *
  subst q1
  first
    | (refine wpAny_bind ?_; refine wp_if_pos g1 ?_; refine hashBy_tup hx ?_)
    | refine wp_if_pos g1 (wpAny_bind (hashBy_tup hx ?_))
  simp only [if_true]
  generalize SetTable.below t.place (way t.mask (thash P w k) K) = p at *
  have rows : (SetTable.insertAt es p (thash P w k, Value.ref x)).toList = rowsOf P w (L.take p ++ (x, k) :: L.drop p) := by
    rw [rows_put, ← R.rows]; exact SetTable.toList_insertAt ..
  have pm := put_perm L p (x, k)
  have T : Laid t1 ((L.take p ++ (x, k) :: L.drop p).map fun p => thash P w p.2) := by
    rw [List.map_append, List.map_cons, List.map_take, List.map_drop]; exact q3
  have one : ((L.take p ++ (x, k) :: L.drop p).map (·.2)).Nodup := (pm.map (·.2)).nodup_iff.mpr (List.nodup_cons.mpr ⟨n, R.one⟩)
  generalize SetTable.insertAt es p (thash P w k, Value.ref x) = es1 at *
  generalize L.take p ++ (x, k) :: L.drop p = L1 at *
  have len1 : L1.length = L.length + 1 := pm.length_eq
  have len2 := rows_len rows
  refine wpAny_bind (wpAny_storeSet_of ho hd ?_ (by rw [len2, len1, sizeLine_eq]; omega))
  have sb : Heap.SameBut a s.heap (s.heap.update a (Obj.putSet es1 t1)) := Heap.SameBut.update ..
  have at1 := store_at (es' := es1) (t' := t1) ho hd
  generalize s.heap.update a (Obj.putSet es1 t1) = h1 at *
  have led : w.params.followText "set-order" = true ∨ t1.led = true := g2.symm ▸ R.led
  have full : t1.tooFull = decide (¬ (L.length + 1) * 5 < t.mask * 3) := by
    unfold SetTable.tooFull
    rw [q4, g3]
    exact decide_eq_decide.mpr ⟨fun c => by omega, fun c => by omega⟩
  by_cases c : (L.length + 1) * 5 < t.mask * 3
  · have e : t1.tooFull = false := by rw [full]; exact decide_eq_false fun n => n c
    first
      | refine wp_if_neg (by simp [e]) ?_
      | (refine wpAny_bind ?_; refine wp_if_neg (by simp [e]) ?_; refine wpAny_pure ?_)
    exact wpAny_pure (q true h1 L1 es1 (ep + 1) t1 sb ⟨⟨_, at1, ⟨hex.1, hex.2.1, hex.2.2⟩, rfl⟩, rows, T, one, g1, led, by rw [len1, g3]; exact c, by omega⟩ (fun m => absurd m n) fun _ => pm)
  · have e : t1.tooFull = true := by rw [full]; exact decide_eq_true c
    obtain ⟨M, w1, w2, w3, w4⟩ := grown_mask R.tab.msk R.few z c
    have go : wpAny (model P w) A (setRelay a (SetTable.grown (es.size + 1))) (fun _ s' => wpAny (model P w) A (pure true) Q E s') E { s with heap := h1 } := by
      rw [len]
      have cn := T.cnt
      rw [List.length_map] at cn
      refine relay_b (s := { s with heap := h1 }) at1 ⟨hex.1, hex.2.1, hex.2.2⟩ rfl rows (cn.trans len2.symm) T.nod (by rw [len2, len1, g3]; omega) one g1 led (by omega) w1 w2 w3 (by rw [len1]; exact w4) ?_
      intro h2 L2 es2 ep2 t2 sb2 R2 pm2
      exact wpAny_pure (q true h2 L2 es2 ep2 t2 (sb.trans sb2) R2 (fun m => absurd m n) fun _ => pm2.trans pm)
    first
      | (refine wpAny_bind ?_; refine wp_if_pos (by simp [e]) ?_; exact go)
      | (refine wp_if_pos (by simp [e]) ?_; refine wpAny_bind ?_; exact go)

theorem SetP.typeIs (R : SetP P w s.heap a L es ep t) : s.TypeIs (.ref a) "set" := by
  obtain ⟨o, ho, hc, _⟩ := R.ob
  exact ⟨o, ho, hc.1⟩
theorem SetP.toks (R : SetP P w s.heap a L es ep t) (n : Nat) : SetP P w ({ s with toks := n } : Shared).heap a L es ep t := R
theorem in_b (R : SetP P w s.heap a L es ep t) (tup : ∀ p ∈ L, IsT P w s.heap p.2 p.1) {x : Addr} {k : List Int} (hx : IsT P w s.heap k x) (hu : A.units + 64 < cLine) {Q : Value → Shared → Prop}
    (q : ∀ n, Q (.bool (decide (k ∈ L.map (·.2)))) { s with toks := n }) : wpAny (model P w) A (compareOp .In (.ref x) (.ref a)) Q E s := by
  show wpAny _ _ (contains (.ref a) (.ref x) >>= fun b => pure (Value.bool b)) Q E s
  refine wpAny_bind ?_
  unfold contains
  try with_reducible refine wpAny_holding ?_
  refine wpAny_bind (wpAny_specialOf R.typeIs F.slot_set_contains.lookup ?_)
  show wpAny _ _ (if (some (Value.builtin "set.__contains__") == some Value.none) = true then _ else _) _ E s
  rw [beq_builtin_none, if_neg Bool.false_ne_true]
  refine wpAny_bind (wpAny_callSpecialUnlessNone?_slot (name := Str.ofString "__contains__") R.typeIs F.slot_set_contains
    (wpAny_call_entry F.slot_set_contains R.typeIs entry_set_contains ?_ (F.args_set_contains_2 _ _)))
  unfold Builtin.«frozenset.__contains__» Builtin.Frozenset.oneOther
  simp only [bind_assoc, List.isEmpty_nil]
  unfold Builtin.Frozenset.addrOf Builtin.Frozenset.withSetAsKey setContains
  refine wpAny_bind (wpAny_pure ?_)
  try dsimp only
  refine wpAny_bind (wpAny_pure ?_)
  try dsimp only
  refine wpAny_bind (wpAny_tryCatch (wpAny_holding (wpAny_bind (wpAny_pyHash_tuple (by simp only [Around.in1_units]; omega) hx ?_))))
  have R1 : SetP P w ({ s with toks := s.toks + (k.length + 1) } : Shared).heap a L es ep t := R
  have tup1 : ∀ p ∈ L, IsT P w ({ s with toks := s.toks + (k.length + 1) } : Shared).heap p.2 p.1 := tup
  have hx1 : IsT P w ({ s with toks := s.toks + (k.length + 1) } : Shared).heap k x := hx
  have q1 := q (s.toks + (k.length + 1))
  generalize ({ s with toks := s.toks + (k.length + 1) } : Shared) = s1 at *
  unfold setFind
  rw [show (100000 : Nat) = Nat.succ 99999 from rfl]
  unfold setFindIn
  obtain ⟨o, ho, _, hd⟩ := R1.ob
  refine wpAny_bind (wpAny_bind (wpAny_setState_of ho hd R1.fits ?_))
  dsimp only
  refine wp_if_neg (by simp [Value.scannable, byScan]) ?_
  try refine wpAny_bind (wpAny_pure ?_)
  refine wpAny_bind (search_b R1 tup1 hx1 (by simp only [Around.in1_units]; omega) false (fun m i => ?y) fun K n _ _ => ?n)
  all_goals dsimp only
  · refine wpAny_pure ?_
    refine wpAny_pure ?_
    rw [decide_eq_true m] at q1
    exact wpAny_pure ⟨_, rfl, wpAny_truthy_bool (wpAny_pure q1)⟩
  · refine wpAny_pure ?_
    refine wpAny_pure ?_
    rw [decide_eq_false n] at q1
    exact wpAny_pure ⟨_, rfl, wpAny_truthy_bool (wpAny_pure q1)⟩
theorem put_b (R : SetP P w s.heap a L es ep t) (tup : ∀ p ∈ L, IsT P w s.heap p.2 p.1) {x : Addr} {k : List Int} (hx : IsT P w s.heap k x) (hu : A.units + 64 < cLine) (few : L.length + 1 ≤ 1000) {Q : Value → Shared → Prop}
    (q : ∀ n h' L' es' ep' t', Heap.SameBut a s.heap h' → SetP P w h' a L' es' ep' t' → (k ∈ L.map (·.2) → L' = L) → (k ∉ L.map (·.2) → L'.Perm ((x, k) :: L)) → Q .none { s with heap := h', toks := n }) :
    wpAny (model P w) A (call (.builtin "set.add") [.ref a, .ref x]) Q E s := by
  refine wpAny_call_entry F.slot_set_add R.typeIs F.entry_set_add ?_ (F.args_set_add_2 _ _)
  unfold Builtin.«set.add» Builtin.Frozenset.oneOther
  simp only [bind_assoc, List.isEmpty_nil]
  unfold Builtin.Frozenset.addrOf setAdd
  refine wpAny_bind (wpAny_pure ?_)
  try dsimp only
  refine wpAny_bind (wpAny_pure ?_)
  try dsimp only
  refine wpAny_bind (wpAny_holding (wpAny_bind (wpAny_pyHash_tuple (by simp only [Around.in1_units]; omega) hx ?_)))
  refine add_b (s := { s with toks := s.toks + (k.length + 1) }) R tup hx (by simp only [Around.in1_units]; omega) few fun b h' L' es' ep' t' s1 s2 s3 s4 => ?_
  exact wpAny_pure ⟨_, rfl, q _ h' L' es' ep' t' s1 s2 s3 s4⟩
end
/-- the set at a, told alone -/
def SetI (P : Program) (w : World) (a : Addr) (L : List (Addr × List Int)) : HO := .ext fun h => ∃ es ep t, SetP P w h a L es ep t
theorem _root_.Ap.NC.setI {P : Program} {w : World} {H : Hp} {a : Addr} {L : List (Addr × List Int)} (e : H a = some (SetI P w a L)) : Ap.NC H a := Ap.NC.ext e fun h ⟨es, ep, t, R⟩ => by
  obtain ⟨o, ho, _, hd⟩ := R.ob
  exact ⟨_, o, ho, fun vs z => by rw [hd] at z; cases z⟩
theorem _root_.Ap.NC.setO {w : World} {H : Hp} {a : Addr} {S : Int → Bool} {n : Nat} (e : H a = some (SetO w a S n)) : Ap.NC H a := Ap.NC.ext e fun h ⟨o, es, ep, t, ho, _, hd, _⟩ => ⟨_, o, ho, fun vs z => by rw [hd] at z; cases z⟩
theorem setI_ok {P : Program} {w : World} {H : Hp} {h : Heap} {a : Addr} {L : List (Addr × List Int)} {es : Array (Int × Value)} {ep : Nat} {t : SetTable} (R : SetP P w h a L es ep t) : ObjOk P w H h a (SetI P w a L) := by
  obtain ⟨o, ho, _⟩ := R.ob
  refine ⟨⟨es, ep, t, R⟩, ⟨o, ho⟩, fun h1 h2 p kp => ?_⟩
  obtain ⟨es, ep, t, R⟩ := p
  obtain ⟨o, ho, r⟩ := R.ob
  exact ⟨es, ep, t, ⟨o, kp o ho, r⟩, R.rows, R.tab, R.one, R.pln, R.led, R.wide, R.few⟩
section
variable {X : Cx}
/-- set() for tuples -/
def rNewI (P : Program) (w : World) : List V → Hp → VK → Prop := fun xs H Q => xs = [] ∧ ∀ p, H p = none → Q (.ref p) (upd H p (SetI P w p []))
theorem cr_newI : CallR X (.type "set") (rNewI X.prog X.w) := by
  intro pins s σ H xs us Q I r h
  obtain ⟨rfl, q⟩ := h
  cases r
  refine setR_new fun _ => ?_
  have R : SetP X.prog X.w (s.heap.push { cls := .type "set", dict := none, data := .set #[] 0 (.fresh 0 0 (!X.w.params.followText "set-order")) }) s.heap.objs.size [] #[] 0 (.fresh 0 0 (!X.w.params.followText "set-order")) := by
    refine ⟨⟨_, Heap.get?_push_size _ rfl, ⟨rfl, rfl, rfl⟩, rfl⟩, rfl, ⟨List.Pairwise.nil, rfl, rfl, .a, fun i h j e => (by simp at e)⟩, List.nodup_nil, rfl, ?_, by show 0 * 5 < 7 * 3; decide, Nat.zero_le _⟩
    show _ ∨ (!X.w.params.followText "set-order") = true
    cases X.w.params.followText "set-order" <;> simp
  exact ⟨.ref _, _, I.laid (t' := s.toks) (fun b u e => Heap.get?_push_of_some _ e) (Nat.le_refl _) (setI_ok R), rfl, q _ (I.hok.fresh (Nat.le_refl _))⟩
/-- the tuples stand -/
def Tups (K : PySem.W.Frag) (H : Hp) (L : List (Addr × List Int)) : Prop := ∀ p ∈ L, SqT K H p.1 (p.2.map V.int)
/-- t in seen -/
def rInI (K : PySem.W.Frag) (P : Program) (w : World) : V → V → Hp → VK → Prop := fun x y H Q => ∃ (b a : Addr) (k : List Int) (L : List (Addr × List Int)), x = .ref b ∧ y = .ref a ∧ SqT K H b (k.map V.int) ∧ H a = some (SetI P w a L) ∧ Tups K H L ∧ Q (.bl (decide (k ∈ L.map (·.2)))) H
theorem op_inI (hu : X.A.units + 64 < cLine) : OpR X (compareOp .In) (rInI X.K X.prog X.w) := by
  intro pins s σ H x y v u Q I rx ry h
  obtain ⟨b, a, k, L, rfl, rfl, hb, ha, T, q⟩ := h
  cases rx
  cases ry
  obtain ⟨⟨es, ep, t, R⟩, _⟩ := I.hok a _ ha
  exact in_b R (fun p hp => I.isT (T p hp)) (I.isT hb) hu fun n => ⟨.bl _, H, I.tok _, rfl, q⟩
/-- seen.add(t) -/
def rAddI (K : PySem.W.Frag) (P : Program) (w : World) : V → List V → Hp → VK → Prop := fun x xs H Q => ∃ (b a : Addr) (k : List Int) (L : List (Addr × List Int)), x = .ref a ∧ xs = [.ref b] ∧ SqT K H b (k.map V.int) ∧ H a = some (SetI P w a L) ∧ Tups K H L ∧ L.length + 1 ≤ 1000 ∧
  ∀ L', (k ∈ L.map (·.2) → L' = L) → (k ∉ L.map (·.2) → L'.Perm ((b, k) :: L)) → Q .non (upd H a (SetI P w a L'))
theorem mt_addI (hu : X.A.units + 64 < cLine) : MtR X "set.add" (rAddI X.K X.prog X.w) := by
  intro pins s σ H x xs v us Q I rx rxs h
  obtain ⟨b, a, k, L, rfl, rfl, hb, ha, T, few, q⟩ := h
  cases rx
  obtain ⟨u, rfl, ru⟩ := vals1 rxs
  cases ru
  obtain ⟨⟨es, ep, t, R⟩, _⟩ := I.hok a _ ha
  refine put_b R (fun p hp => I.isT (T p hp)) (I.isT hb) hu few fun n h' L' es' ep' t' sb R' e1 e2 => ?_
  obtain ⟨o, ho, _⟩ := R'.ob
  exact ⟨.non, _, I.write (e := a) (t' := n) (by rw [ha]; trivial) (.inl rfl) (fun c u hc hu => (sb.2 c hc).trans hu) ⟨o, ho⟩ (setI_ok R'), rfl, q L' e1 e2⟩
end
end Sx


/-! KX: list(d.values()), seen.add(t). -/
namespace Sx
open PySem PySem.Spec PyProof.Rows L2
section
variable {X : Cx}
/-- list(e.values()) -/
def tVals (te : TE) : TE := fun σ H Q => te σ H fun x H1 => ∃ (d : Addr) (kvs : List (Key × V)), x = .ref d ∧ H1 d = some (.dK kvs) ∧ ∀ p, H1 p = none → Q (.ref p) (upd H1 p (.lst (kvs.map (·.2))))
theorem kv_vals : ∀ {kvs : List (Key × V)} {vs : List (Key × Value)}, KV kvs vs → Vals (kvs.map (·.2)) (vs.map (·.2))
  | _, _, .nil => .nil
  | _, _, .cons h t => .cons h.2 (kv_vals t)
theorem pe_listVals {e : Expr} {te : TE} {p apos cpos pos : Pos} (hc : X.calm = true) (he : PE X e te) (hg : Gl X "list") (hm : X.mg "list" = none) (hbase : attributeBase e "values" X.env (eval e X.env) = eval e X.env := by rfl) (hline : (apos.endLine == cpos.line) = true := by rfl)
    (hs : starEach [.Call (.Attribute e "values" apos) [] [] cpos] X.env = (false, eval (.Call (.Attribute e "values" apos) [] [] cpos) X.env) :: starEach [] X.env := by rfl) :
    PE X (.Call (.Name "list" p) [.Call (.Attribute e "values" apos) [] [] cpos] [] pos) (tVals te) := by
  refine ⟨fun pins s σ H Q I hq => ?_⟩
  refine wpAny_Call_Name_kw (ld_blt I hg hm (by decide +kernel : bootBuiltins "list" = some (.type "list")) ?_)
  refine PyProof.Rows.callWith_type1 ?_ hs rfl
  rw [hs]
  refine (Calls.spliced_cons ?_ : wpAny _ _ (spliced ((false, eval (.Call (.Attribute e "values" apos) [] [] cpos) X.env) :: backTo pos (starEach [] X.env))) _ _ s)
  refine wpAny_Call_method (T := "dict") (id := "dict.values") hbase rfl hline F.plainAttrs_dict F.slot_dict_values F.type_dict_values (thn (he.run pins s σ H _ I hq) fun u s1 ⟨x, H1, I1, rx, d, kvs, ex, hd, q⟩ => ?_)
  subst ex
  obtain rfl : u = Value.ref d := rx
  obtain ⟨hz, ns, vs, kv, hdo⟩ := I1.hok d _ hd
  obtain ⟨ep, hat⟩ := hdo.dictAt
  have lk : kvs.length = vs.length := Paired.length kv
  refine ⟨hdo.typeIs, hdo.mapOf.noDict, (?_ : wpAny _ _ (callWith cpos (.builtin "dict.values") [.ref d] [] []) _ X.xe s1)⟩
  refine method_meetsIn F.slot_dict_values F.entry_dict_values rfl (PySem.evalArgs_none ⟨rfl, hdo.typeIs, F.args_dict_values_1 _, _, meets_dict_values (mixKind X.prog X.w) d ns, ⟨vs, hdo⟩, Calls.spliced_nil ?_⟩)
  have I2 : Inv X pins σ H1 { s1 with heap := s1.heap.push { cls := .type "dict_values", data := .fields #[.ref d] } } := I1.kept (t' := s1.toks) fun b ob z => Heap.get?_push_of_some _ z
  refine PySem.W.kdl_call (PySem.W.kdl_values (knd := mixKind X.prog X.w) (kvs := vs) (ep := ep)) (I1.ok.hd hc) ⟨⟨_, Heap.get?_push_size _ rfl, rfl, rfl⟩, hat.push _⟩ (by omega) fun h' tk acc c hk hS it => ?_
  have ea : acc.toList = vs.map (·.2) := PySem.W.kdl_vals_eq _ (by rw [Array.length_toList]; exact it.1) fun j v hj => it.2 j v (by rw [← Array.getElem?_toList]; exact hj)
  refine ⟨.ref _, _, I2.laid (t' := tk) (o := .lst (kvs.map (·.2))) hk (Nat.le_refl _) ⟨by rw [List.length_map]; omega, acc.toList, c, by rw [ea]; exact kv_vals kv, hS⟩, rfl, q _ ?_⟩
  exact I2.hok.fresh (Nat.le_refl _)
/-- seen.add(t), t a tuple of ints -/
def tAddI (K : PySem.W.Frag) (P : Program) (w : World) (to : TE) (t : TA) : TE := fun σ H Q => to σ H fun x H1 => (∃ a L, x = V.ref a ∧ H1 a = some (SetI P w a L)) ∧ t σ H1 fun xs H2 => rAddI K P w x xs H2 Q
theorem pe_addI {o e : Expr} {es : List Expr} {to : TE} {t : TA} {apos cpos : Pos} (hu : X.A.units + 64 < cLine) (ho : PE X o to) (ha : PA X (e :: es) t) (hb : attributeBase o "add" X.env (eval o X.env) = eval o X.env := by rfl)
    (hf : ((backTo cpos (starEach (e :: es) X.env)).all (fun x => !x.1) && (backToKw cpos (keywordEach [] X.env)).all (fun x => x.1.isSome) && decide ((e :: es).length + ([] : List Keyword).length + (if ([] : List Keyword).isEmpty then 0 else 1) < 30)) = true := by rfl)
    (hl : (apos.endLine == cpos.line) = true := by rfl) (hs : starEach (e :: es) X.env = (false, eval e X.env) :: starEach es X.env := by rfl) (hp : (backTo cpos (starEach es X.env)).any (·.1) = false := by rfl) :
    PE X (.Call (.Attribute o "add" apos) (e :: es) [] cpos) (tAddI X.K X.prog X.w to t) := by
  refine ⟨fun pins s σ H Q I h => ?_⟩
  refine wpAny_Call_method_late hb hf hl rfl (thn (ho.run pins s σ H _ I h) fun v s1 ⟨x, H1, I1, rx, ⟨a, L, ex, hk⟩, q⟩ => ?_)
  subst ex
  obtain ⟨⟨es0, ep, t0, R⟩, _⟩ := I1.hok a _ hk
  have nd : ∀ b, Value.ref a = .ref b → ∃ ob, s1.heap.get? b = some ob ∧ ob.dict = none := fun b e => by
    cases e
    obtain ⟨o, ho, hx, _⟩ := R.ob
    exact ⟨o, ho, hx.2.1⟩
  cases rx
  refine ⟨"set", "set.add", F.plainAttrs_set, F.slot_set_add, F.type_set_add, R.typeIs (s := s1), nd, ?_⟩
  have args := ha.run cpos pins s1 σ H1 _ I1 q
  rw [hs] at args ⊢
  refine Calls.callWith_builtin ?_ (Calls.evalArgs_plain (thn args fun us s2 ⟨vs, H2, I2, r2, q2⟩ => mt_addI hu pins s2 σ H2 (.ref a) vs (.ref a) us Q I2 rfl r2 q2))
  show (false || (backTo cpos (starEach es X.env)).any (·.1)) = false
  rw [hp]; rfl
end
end Sx


/-! K3: steps for dicts, unpacking, sets of tuples, all(..), isinstance, going through. -/
namespace Ap
open PySem L2 PySem.Spec PyProof.Rows
section
variable {X : Cx} {K : PySem.W.Frag} {σ : L2.St} {H : Hp} {Q : VK} {v x y : V} {td ty tv te : TE} {ta : TA} {g : TG} {gs : TGs} {D : Ends} {R : L2.St → Hp → Prop}
instance i_kNT {A B : Hp → Prop} : St (kIf A B (!true) H) (B H) := ⟨g_kF⟩
instance i_kNF {A B : Hp → Prop} : St (kIf A B (!false) H) (A H) := ⟨g_kT⟩
/-! ### targets -/
instance i_gNil : St (gNil [] σ H R) (R σ H) := ⟨fun h => ⟨rfl, h⟩⟩
def kGc (gs : TGs) (r : List V) (R : L2.St → Hp → Prop) : L2.St → Hp → Prop := fun σ' H' => gs r σ' H' R
instance i_gCons {r : List V} : St (gCons g gs (v :: r) σ H R) (g v σ H (kGc gs r R)) := ⟨fun h => ⟨v, r, rfl, h⟩⟩
instance i_kGc {r : List V} : St (kGc gs r R σ H) (gs r σ H R) := ⟨id⟩
theorem g_gLst {a : Addr} {xs : List V} {n : Nat} (e : H a = some (.lst xs)) (l : xs.length = n) (h : gs xs σ H R) : gLst K n gs (.ref a) σ H R := ⟨a, xs, rfl, SqL.of e, l, h⟩
theorem g_gTup {a : Addr} {xs : List V} {n : Nat} (e : H a = some (.tup xs)) (l : xs.length = n) (h : gs xs σ H R) : gTup K n gs (.ref a) σ H R := ⟨a, xs, rfl, SqT.of e, l, h⟩
/-! ### dicts -/
def kD2 (ty : TE) (σ : L2.St) (f : V → V → Hp → Prop) : VK := fun x H1 => ty σ H1 fun y H2 => f x y H2
def kDf (f : V → V → Hp → Prop) (x : V) : VK := fun y H2 => f x y H2
instance i_kD2 {f : V → V → Hp → Prop} : St (kD2 ty σ f x H) (ty σ H (kDf f x)) := ⟨id⟩
def fGet (Q : VK) : V → V → Hp → Prop := fun x y H2 => ∃ a v, x = .ref a ∧ DGet H2 a y (some v) ∧ Q v H2
instance i_dget : St (tDGet td ty σ H Q) (td σ H (kD2 ty σ (fGet Q))) := ⟨id⟩
theorem g_get {a : Addr} {kvs : List (Key × V)} {k : Key} (e : H a = some (.dK kvs)) (ey : y = kV k) (hv : valV kvs k = some v) (h : Q v H) : kDf (fGet Q) (.ref a) y H := ⟨a, v, rfl, by rw [ey, ← hv]; exact DGet.k e, h⟩
def fIn (b : Bool) (Q : VK) : V → V → Hp → Prop := fun y x H2 => ∃ a o, x = .ref a ∧ DGet H2 a y o ∧ Q (.bl (if b = true then o.isSome else !o.isSome)) H2
instance i_din : St (tDIn ty td σ H Q) (ty σ H (kD2 td σ (fIn true Q))) := ⟨id⟩
instance i_dnotin : St (tDNotIn ty td σ H Q) (ty σ H (kD2 td σ (fIn false Q))) := ⟨id⟩
theorem g_din {a : Addr} {kvs : List (Key × V)} {k : Key} {b : Bool} (e : H a = some (.dK kvs)) (ey : y = kV k) (h : Q (.bl (if b = true then (valV kvs k).isSome else !(valV kvs k).isSome)) H) : kDf (fIn b Q) y (.ref a) H := ⟨a, _, rfl, by rw [ey]; exact DGet.k e, h⟩
def kP1 (td ty : TE) (σ : L2.St) (R : L2.St → Hp → Prop) : VK := fun v H1 => td σ H1 fun x H2 => ty σ H2 fun y H3 => ∃ a H4, x = .ref a ∧ DPut H3 a y v H4 ∧ R σ H4
def fPut (v : V) (σ : L2.St) (R : L2.St → Hp → Prop) : V → V → Hp → Prop := fun x y H3 => ∃ a H4, x = .ref a ∧ DPut H3 a y v H4 ∧ R σ H4
instance i_dput : St (sDPut td ty tv D σ H) (tv σ H (kP1 td ty σ D.nx)) := ⟨id⟩
instance i_kP1 : St (kP1 td ty σ R v H) (td σ H (kD2 ty σ (fPut v σ R))) := ⟨id⟩
theorem g_put {a : Addr} {kvs : List (Key × V)} {k : Key} (e : H a = some (.dK kvs)) (ey : y = kV k) (l : kvs.length < sizeLine) (h : R σ (upd H a (.dK (putK kvs k v)))) : kDf (fPut v σ R) (.ref a) y H := ⟨a, _, rfl, by rw [ey]; exact DPut.k e l, h⟩
theorem g_dnew (h : ∀ p, H p = none → Q (.ref p) (upd H p (.dK []))) : tDNewK σ H Q := h
def kSd1 (ty tv : TE) (σ : L2.St) (Q : VK) : VK := fun x H1 => ∃ a, x = .ref a ∧ IsD H1 a ∧ ty σ H1 fun y H2 => tv σ H2 fun z H3 => ∃ (kvs : List (Key × V)) (k : Key), H3 a = some (.dK kvs) ∧ y = kV k ∧ kvs.length < sizeLine ∧ (∀ v, valV kvs k = some v → Q v H3) ∧ (valV kvs k = none → Q z (upd H3 a (.dK (putK kvs k z))))
def fSd (a : Addr) (Q : VK) : V → V → Hp → Prop := fun y z H3 => ∃ (kvs : List (Key × V)) (k : Key), H3 a = some (.dK kvs) ∧ y = kV k ∧ kvs.length < sizeLine ∧ (∀ v, valV kvs k = some v → Q v H3) ∧ (valV kvs k = none → Q z (upd H3 a (.dK (putK kvs k z))))
instance i_dsetd : St (tDSetd td ty tv σ H Q) (td σ H (kSd1 ty tv σ Q)) := ⟨id⟩
theorem g_sd {a : Addr} {kvs : List (Key × V)} (e : H a = some (.dK kvs)) (h : ty σ H (kD2 tv σ (fSd a Q))) : kSd1 ty tv σ Q (.ref a) H := ⟨a, rfl, .inl ⟨kvs, Rd.of e⟩, h⟩
theorem g_sdk {a : Addr} {kvs : List (Key × V)} {k : Key} {z : V} (e : H a = some (.dK kvs)) (ey : y = kV k) (l : kvs.length < sizeLine) (h1 : ∀ v, valV kvs k = some v → Q v H) (h2 : valV kvs k = none → Q z (upd H a (.dK (putK kvs k z)))) : kDf (fSd a Q) y z H := ⟨kvs, k, e, ey, l, h1, h2⟩
def kVl (Q : VK) : VK := fun x H1 => ∃ (d : Addr) (kvs : List (Key × V)), x = .ref d ∧ H1 d = some (.dK kvs) ∧ ∀ p, H1 p = none → Q (.ref p) (upd H1 p (.lst (kvs.map (·.2))))
instance i_vals : St (Sx.tVals te σ H Q) (te σ H (kVl Q)) := ⟨id⟩
theorem g_kVl {d : Addr} {kvs : List (Key × V)} (e : H d = some (.dK kvs)) (h : ∀ p, H p = none → Q (.ref p) (upd H p (.lst (kvs.map (·.2))))) : kVl Q (.ref d) H := ⟨d, kvs, rfl, e, h⟩
/-! ### sets of tuples -/
def kAd (K : PySem.W.Frag) (P : Program) (w : World) (ta : TA) (σ : L2.St) (Q : VK) : VK := fun x H1 => (∃ a L, x = V.ref a ∧ H1 a = some (Sx.SetI P w a L)) ∧ ta σ H1 fun xs H2 => Sx.rAddI K P w x xs H2 Q
def kAd2 (K : PySem.W.Frag) (P : Program) (w : World) (x : V) (Q : VK) : LK := fun xs H2 => Sx.rAddI K P w x xs H2 Q
instance i_addI {P : Program} {w : World} : St (Sx.tAddI K P w te ta σ H Q) (te σ H (kAd K P w ta σ Q)) := ⟨id⟩
theorem g_kAd {P : Program} {w : World} {a : Addr} {L : List (Addr × List Int)} (e : H a = some (Sx.SetI P w a L)) (h : ta σ H (kAd2 K P w (.ref a) Q)) : kAd K P w ta σ Q (.ref a) H := ⟨⟨a, L, rfl, e⟩, h⟩
instance i_kAd2 {P : Program} {w : World} {xs : List V} : St (kAd2 K P w x Q xs H) (Sx.rAddI K P w x xs H Q) := ⟨id⟩
/-! ### all(..) -/
def kAl (K : PySem.W.Frag) (P : Addr) (Cn : L2.St → Hp → V → (Value → Prop) → Prop) (σ : L2.St) (Q : VK) : VK := fun v H1 => ∃ (yl : Addr) (ws : List V) (pb : V → Bool), v = .ref yl ∧ SqL K H1 yl ws ∧ (∀ w ∈ ws, Cn σ H1 w (· = .bool (pb w))) ∧ GxR.TabG H1 P ∧ ∀ H2, GxR.Tabbed P H1 H2 → Q (.bl (ws.all pb)) H2
instance i_all {P : Addr} {Cn : L2.St → Hp → V → (Value → Prop) → Prop} : St (tAllL K P Cn te σ H Q) (te σ H (kAl K P Cn σ Q)) := ⟨id⟩
/-! ### going through -/
instance i_lock {t : TS} : St (tLock t D σ H) (∃ d u, H d = some u ∧ Mut (some u) ∧ ∀ od, t ⟨fun σ' H' => H' d = some (.frz od u) ∧ D.nx σ' (upd H' d u), fun v H' => H' d = some (.frz od u) ∧ D.rt v (upd H' d u), fun σ' H' => H' d = some (.frz od u) ∧ D.bk σ' (upd H' d u), fun σ' H' => H' d = some (.frz od u) ∧ D.ct σ' (upd H' d u)⟩ σ (upd H d (.frz od u))) := ⟨id⟩
def kIK (R : It → Hp → Prop) : VK := fun x H1 => ∃ d o, x = .ref d ∧ ((∃ kvs, H1 d = some (.frz o (.dK kvs)) ∧ R (Itk d o kvs) H1) ∨ ∃ kvs, H1 d = some (.frz o (.dT kvs)) ∧ R (Itkt d o kvs) H1)
instance i_iKeys {R : It → Hp → Prop} : St (iKeys td σ H R) (td σ H (kIK R)) := ⟨id⟩
theorem g_kIK {R : It → Hp → Prop} {d : Addr} {o : Obj} {kvs : List (Key × V)} (e : H d = some (.frz o (.dK kvs))) (h : R (Itk d o kvs) H) : kIK R (.ref d) H := ⟨d, o, rfl, .inl ⟨kvs, e, h⟩⟩
def kIEn (K : PySem.W.Frag) (R : It → Hp → Prop) : LK := fun vs H1 => ∃ a xs, vs = [.ref a] ∧ SqL K H1 a xs ∧ R (Ite K a) H1
instance i_iEnum {R : It → Hp → Prop} : St (iEnum K ta σ H R) (ta σ H (kIEn K R)) := ⟨id⟩
theorem g_kIEn {R : It → Hp → Prop} {a : Addr} {xs : List V} (e : H a = some (.lst xs)) (h : R (Ite K a) H) : kIEn K R [.ref a] H := ⟨a, xs, rfl, SqL.of e, h⟩
/-- by any walk -/
theorem g_it {J : It} {n : Nat} {G : Hp → Prop} {Y : Nat → Hp → V → Hp → Prop} (w : Walk J n G Y) {tb : TS} (Pv : Nat → L2.St → Hp → Prop) (h0 : Pv 0 σ H) (hG : ∀ i σ H, i ≤ n → Pv i σ H → G H)
    (hs : ∀ i x σ H H', i < n → Pv i σ H → Y i H x H' → g x σ H' (tb ⟨Pv (i + 1), D.rt, D.nx, Pv (i + 1)⟩)) (hd : ∀ σ H, Pv n σ H → D.nx σ H) : kFor g tb D σ J H := for_it w Pv h0 hG hs hd
/-! ### a < b < c -/
def kCh1 (r r' : R2) (tb tc : TE) (σ : L2.St) (Q : VK) : VK := fun x H1 => tb σ H1 fun y H2 => r x y H2 fun z H3 => ∃ k, z = .bl k ∧ (if k = true then tc σ H3 fun w' H4 => r' y w' H4 Q else Q (.bl false) H3)
def kCh2 (r r' : R2) (tc : TE) (x : V) (σ : L2.St) (Q : VK) : VK := fun y H2 => r x y H2 fun z H3 => ∃ k, z = .bl k ∧ (if k = true then tc σ H3 fun w' H4 => r' y w' H4 Q else Q (.bl false) H3)
def kCh3 (r' : R2) (tc : TE) (y : V) (σ : L2.St) (Q : VK) : VK := fun z H3 => ∃ k, z = .bl k ∧ (if k = true then tc σ H3 fun w' H4 => r' y w' H4 Q else Q (.bl false) H3)
instance i_chain {r r' : R2} {ta tb tc : TE} : St (tChain r r' ta tb tc σ H Q) (ta σ H (kCh1 r r' tb tc σ Q)) := ⟨id⟩
instance i_kCh1 {r r' : R2} {tb tc : TE} : St (kCh1 r r' tb tc σ Q x H) (tb σ H (kCh2 r r' tc x σ Q)) := ⟨id⟩
instance i_kCh2 {r r' : R2} {tc : TE} : St (kCh2 r r' tc x σ Q y H) (r x y H (kCh3 r' tc y σ Q)) := ⟨id⟩
instance i_kCh3 {r' : R2} {tc : TE} {k : Bool} : St (kCh3 r' tc y σ Q (.bl k) H) (kIf (fun H3 => tc σ H3 (kO2 r' y Q)) (fun H3 => Q (.bl false) H3) k H) := ⟨fun h => ⟨k, rfl, h⟩⟩
/-! ### isinstance -/
theorem g_isi {T T' : String} {b : Bool} (t : TyX K H x (.type T')) (k : kitB T' T = some b) (h : Q (.bl b) H) : rIsi K [x, .ty T] H Q := ⟨x, .ty T, _, _, b, rfl, .ty T, t, kit_ty k, h⟩
end
theorem upd_swap {H : Hp} {a b : Addr} {x y : HO} (h : b ≠ a) : upd (upd H a x) b y = upd (upd H b y) a x := funext fun c => by
  by_cases h1 : c = b
  · rw [h1, upd_same, upd_ne h, upd_same]
  · rw [upd_ne h1]
    by_cases h2 : c = a
    · rw [h2, upd_same, upd_same]
    · rw [upd_ne h2, upd_ne h2, upd_ne h1]
theorem upd_upd {H : Hp} {a : Addr} {x y : HO} : upd (upd H a x) a y = upd H a y := funext fun c => by
  by_cases h : c = a
  · rw [h, upd_same, upd_same]
  · rw [upd_ne h, upd_ne h, upd_ne h]
theorem upd_id {H : Hp} {a : Addr} {x : HO} (e : H a = some x) : upd H a x = H := funext fun c => by
  by_cases h : c = a
  · rw [h, upd_same, e]
  · rw [upd_ne h]
/-- a table alone has grown -/
theorem Kp.tabbed {T : Addr} {H H' : Hp} (lg : lamT T = none) (g : GxR.TabG H T) (h : GxR.Tabbed T H H') : Kp [] H H' := by
  obtain ⟨ps, e, t⟩ := g
  obtain ⟨⟨ps', e', t'⟩, k⟩ := h
  refine ⟨fun b o _ hb n => ?_, fun b qs hb tq => ?_, fun b o hb => ?_, fun b q l ht => ?_⟩
  rotate_right
  · obtain ⟨qs, q1, q2, q3⟩ := ht
    refine ⟨qs, (k b fun z => by rw [z, lg] at l; cases l).trans q1, q2, fun pos cv hc => ?_⟩
    obtain ⟨c, c1, c2⟩ := q3 pos cv hc
    exact ⟨c, c1, (k c fun z => by rw [z, e] at c2; exact LamX.codeO_ne ps (Option.some.inj c2).symm).trans c2⟩
  · rw [k b fun z => n ps (by rw [z, e] at hb; exact (Option.some.inj hb).symm)]; exact hb
  · by_cases z : b = T
    · rw [z]; exact ⟨ps', e', t'⟩
    · exact ⟨qs, (k b z).trans hb, tq⟩
  · by_cases z : b = T
    · rw [z]; exact ⟨_, e'⟩
    · exact ⟨o, (k b z).trans hb⟩
theorem _root_.Sx.Tups.kp {K : PySem.W.Frag} {H H' : Hp} {L : List (Addr × List Int)} (h : Sx.Tups K H L) (k : Kp [] H H') : Sx.Tups K H' L := fun p hp => by
  rcases h p hp with (h | ⟨o, h⟩) | h
  · exact .inl (.inl (k.tup nin0 h))
  · exact .inl (.inr ⟨o, k.frz nin0 h⟩)
  · exact .inr h
/-- a generator expression's scope within a def -/
theorem gs_of {qual : Str} {sc scope : Scope} {L f : Addr} {cdv : Value} {x : Str} (k : scope.kind = .function) (co : scope.isCoroutine = false) (ce : ∀ y ∈ scope.names, y.2 ≠ .cell) (dot : scope.names.lookup (".0" : Str) = some NameKind.local) (loc : scope.names.lookup x = some .local)
    (fr : ∀ y ∈ scope.names, y.2 = .free → sc.names.lookup y.1 = some .cell) : GxR.GenS (envOfC qual sc L f cdv) scope x :=
  ⟨k, co, ce, dot, loc, fun y hy hf => Option.isSome_iff_exists.mp (PySem.W.cellsFrom_some _ _ _ (.inl (fr y hy hf)))⟩
end Ap
namespace Ap
open PySem L2 PySem.Spec PyProof.Rows
/-! ### list comprehensions -/
section
variable {K : PySem.W.Frag} {σ : L2.St} {H : Hp} {Q : VK} {te : TE} {tt : TT} {g : TG} {vs : List Nat} {D : Addr} {N : Hp → Prop} {y : V}
def kLc (g : TG) (tt : TT) (te : TE) (vs : List Nat) (σ : L2.St) (Q : VK) : It → Hp → Prop := fun J H1 => ∀ D, H1 D = none → ∃ W : Nat → Nat → Hp → Prop, (∃ m, W 0 m (upd H1 D (.lst []))) ∧ ∀ i m H, W i m H →
  (J.stop i H ∧ Q (.ref D) H) ∨ (J.go i H ∧ ∃ Nx : Hp → Prop, (∀ H', Nx H' → ∃ m', m' < m ∧ W (i + 1) m' H') ∧ ∀ x H', J.yld i H x H' → g x (wipe σ vs) H' fun σ2 H2 => wipe σ2 vs = wipe σ vs ∧ tt σ2 H2 fun b H3 =>
    if b = true then te σ2 H3 fun y H4 => ∃ acc, H4 D = some (.lst acc) ∧ acc.length < sizeLine ∧ Nx (upd H4 D (.lst (acc ++ [y]))) else Nx H3)
instance i_lc {wi : TI} : St (tLc wi g tt te vs σ H Q) (wi σ H (kLc g tt te vs σ Q)) := ⟨id⟩
def kLe (D : Addr) (N : Hp → Prop) : VK := fun y H4 => ∃ acc, H4 D = some (.lst acc) ∧ acc.length < sizeLine ∧ N (upd H4 D (.lst (acc ++ [y])))
def kLg (tt : TT) (te : TE) (D : Addr) (vs : List Nat) (w0 : L2.St) (N : Hp → Prop) : L2.St → Hp → Prop := fun σ2 H2 => wipe σ2 vs = w0 ∧ tt σ2 H2 (kIf (fun H3 => te σ2 H3 (kLe D N)) N)
theorem g_kLg {w0 : L2.St} (e : wipe σ vs = w0) (h : tt σ H (kIf (fun H3 => te σ H3 (kLe D N)) N)) : kLg tt te D vs w0 N σ H := ⟨e, h⟩
theorem g_kLe {acc : List V} (e : H D = some (.lst acc)) (l : acc.length < sizeLine) (h : N (upd H D (.lst (acc ++ [y])))) : kLe D N y H := ⟨acc, e, l, h⟩
instance i_yes {R : Bool → Hp → Prop} : St (tYes σ H R) (R true H) := ⟨id⟩
/-- by any walk; w0: the slots with the comprehension's own ones empty -/
theorem g_lc {J : It} {n : Nat} {G : Hp → Prop} {Y : Nat → Hp → V → Hp → Prop} (w : Walk J n G Y) {w0 : L2.St} (ew : wipe σ vs = w0)
    (h : ∀ D, H D = none → ∃ Pv : Nat → Hp → Prop, Pv 0 (upd H D (.lst [])) ∧ (∀ i H, i ≤ n → Pv i H → G H) ∧ (∀ i x H1 H', i < n → Pv i H1 → Y i H1 x H' → g x w0 H' (kLg tt te D vs w0 (Pv (i + 1)))) ∧ ∀ H, Pv n H → Q (.ref D) H) : kLc g tt te vs σ Q J H := by
  subst ew
  intro D hD
  obtain ⟨Pv, h0, hG, hs, hd⟩ := h D hD
  exact lc_it w Pv h0 hG hs hd
end
/-- a comprehension within a comprehension -/
def relS (sc0 sc : Scope) : Scope := relabel sc0 { scope := sc, locals := 0, globals := 0, cells := [] }
theorem blkOk_in {N : List Str} {sc0 sc scope : Scope} {own : List (Str × Nat)} {env : Env} (e : env.scope = sc) (h : blkC N (relS sc0 sc) scope own = true) : BlkOk N (relabel sc0 env) scope own := by
  subst e
  exact blkOk_by h
mutual
/-- a new thing is none of the data's -/
theorem Da.fresh {P : Addr → Prop} {H : Hp} {p : Addr} {o : HO} (hp : H p = none) : ∀ {d : PyData} {v : V}, Da P H v d → Da (fun b => P b ∧ b ≠ p) (upd H p o) v d
  | _, _, .non => .non
  | _, _, .bl b => .bl b
  | _, _, .int i => .int i
  | _, _, .str x => .str x
  | _, _, .lst h e a => .lst ⟨h, ne_of_none e hp⟩ (by rw [upd_ne (ne_of_none e hp)]; exact e) (DaAll.fresh hp a)
  | _, _, .tup h e a => .tup ⟨h, ne_of_none e hp⟩ (by rw [upd_ne (ne_of_none e hp)]; exact e) (DaAll.fresh hp a)
theorem DaAll.fresh {P : Addr → Prop} {H : Hp} {p : Addr} {o : HO} (hp : H p = none) : ∀ {ds : List PyData} {vs : List V}, DaAll P H vs ds → DaAll (fun b => P b ∧ b ≠ p) (upd H p o) vs ds
  | _, _, .nil => .nil
  | _, _, .cons h t => .cons (Da.fresh hp h) (DaAll.fresh hp t)
end
mutual
/-- a thing that is none of the data's is changed -/
theorem Da.other {P : Addr → Prop} {H : Hp} {p : Addr} {o : HO} (hp : ∀ b, P b → b ≠ p) : ∀ {d : PyData} {v : V}, Da P H v d → Da P (upd H p o) v d
  | _, _, .non => .non
  | _, _, .bl b => .bl b
  | _, _, .int i => .int i
  | _, _, .str x => .str x
  | _, _, .lst h e a => .lst h (by rw [upd_ne (hp _ h)]; exact e) (DaAll.other hp a)
  | _, _, .tup h e a => .tup h (by rw [upd_ne (hp _ h)]; exact e) (DaAll.other hp a)
theorem DaAll.other {P : Addr → Prop} {H : Hp} {p : Addr} {o : HO} (hp : ∀ b, P b → b ≠ p) : ∀ {ds : List PyData} {vs : List V}, DaAll P H vs ds → DaAll P (upd H p o) vs ds
  | _, _, .nil => .nil
  | _, _, .cons h t => .cons (Da.other hp h) (DaAll.other hp t)
end
theorem Da.imp {P P' : Addr → Prop} {H : Hp} {v : V} {d : PyData} (h : Da P H v d) (w : ∀ b, P b → P' b) : Da P' H v d := h.keep (Kp.refl [] _) (fun _ _ => nin0) w
theorem DaAll.imp {P P' : Addr → Prop} {H : Hp} {vs : List V} {ds : List PyData} (h : DaAll P H vs ds) (w : ∀ b, P b → P' b) : DaAll P' H vs ds := h.keep (Kp.refl [] _) (fun _ _ => nin0) w
mutual
/-- what the data stand at is there -/
theorem Da.here {P : Addr → Prop} {H : Hp} : ∀ {d : PyData} {v : V}, Da P H v d → Da (fun b => P b ∧ H b ≠ none) H v d
  | _, _, .non => .non
  | _, _, .bl b => .bl b
  | _, _, .int i => .int i
  | _, _, .str x => .str x
  | _, _, .lst h e a => .lst ⟨h, by rw [e]; exact Option.some_ne_none _⟩ e (DaAll.here a)
  | _, _, .tup h e a => .tup ⟨h, by rw [e]; exact Option.some_ne_none _⟩ e (DaAll.here a)
theorem DaAll.here {P : Addr → Prop} {H : Hp} : ∀ {ds : List PyData} {vs : List V}, DaAll P H vs ds → DaAll (fun b => P b ∧ H b ≠ none) H vs ds
  | _, _, .nil => .nil
  | _, _, .cons h t => .cons (Da.here h) (DaAll.here t)
end
end Ap


/-! N0: nets in plain words. -/
namespace Ap
open PySem L2
abbrev Tie := Int × Int
/-- two ties do not tie the same two -/
def Apart (s t : Tie) : Prop := ¬ (s.1 = t.1 ∧ s.2 = t.2) ∧ ¬ (s.1 = t.2 ∧ s.2 = t.1)
/-- ties of different seats of S, no two seats twice -/
structure NetS (S : List Int) (ts : List Tie) : Prop where
  mem : ∀ t ∈ ts, t.1 ∈ S ∧ t.2 ∈ S ∧ t.1 ≠ t.2
  ap : ts.Pairwise Apart
theorem NetS.nil (S : List Int) : NetS S [] := ⟨fun _ h => (nomatch h), .nil⟩
theorem NetS.mono {S S' : List Int} {ts : List Tie} (h : NetS S ts) (k : ∀ x ∈ S, x ∈ S') : NetS S' ts := ⟨fun t m => ⟨k _ (h.mem t m).1, k _ (h.mem t m).2.1, (h.mem t m).2.2⟩, h.ap⟩
theorem NetS.snoc {S : List Int} {ts : List Tie} (h : NetS S ts) {t : Tie} (h1 : t.1 ∈ S) (h2 : t.2 ∈ S) (ne : t.1 ≠ t.2) (ap : ∀ s ∈ ts, Apart s t) : NetS S (ts ++ [t]) := by
  refine ⟨fun s m => ?_, List.pairwise_append.mpr ⟨h.ap, List.pairwise_singleton _ _, fun s hs u hu => ?_⟩⟩
  · rcases List.mem_append.mp m with m | m
    · exact h.mem s m
    · obtain rfl := List.mem_singleton.mp m
      exact ⟨h1, h2, ne⟩
  · obtain rfl := List.mem_singleton.mp hu
    exact ap s hs
/-- a new seat x is tied -/
theorem NetS.new {S : List Int} {ts : List Tie} (h : NetS S ts) {x y : Int} (hx : x ∉ S) (hy : y ∈ S) : NetS (S ++ [x]) (ts ++ [(x, y)]) ∧ NetS (S ++ [x]) (ts ++ [(y, x)]) := by
  have m : ∀ z ∈ S, z ∈ S ++ [x] := fun z hz => List.mem_append_left _ hz
  have ne : x ≠ y := fun z => hx (z ▸ hy)
  have xm : x ∈ S ++ [x] := List.mem_append_right _ (List.mem_singleton.mpr rfl)
  have o : ∀ s ∈ ts, s.1 ≠ x ∧ s.2 ≠ x := fun s hs => ⟨fun z => hx (z ▸ (h.mem s hs).1), fun z => hx (z ▸ (h.mem s hs).2.1)⟩
  refine ⟨(h.mono m).snoc xm (m y hy) ne fun s hs => ⟨fun z => (o s hs).1 z.1, fun z => (o s hs).2 z.2⟩, (h.mono m).snoc (m y hy) xm (Ne.symm ne) fun s hs => ⟨fun z => (o s hs).2 z.2, fun z => (o s hs).1 z.1⟩⟩
theorem take_succ' {ls : List Int} {i : Nat} {x : Int} (h : ls[i]? = some x) : ls.take (i + 1) = ls.take i ++ [x] := by
  rw [List.take_add_one, h]; rfl
theorem not_mem_take {ls : List Int} (nd : ls.Nodup) {i : Nat} {x : Int} (h : ls[i]? = some x) : x ∉ ls.take i := by
  intro z
  obtain ⟨j, hj, e⟩ := List.getElem_of_mem z
  rw [List.length_take] at hj
  rw [List.getElem_take] at e
  obtain ⟨hi, e2⟩ := List.getElem?_eq_some_iff.mp h
  have := (List.getElem_inj nd).mp (e.trans e2.symm)
  omega
theorem mem_take {ls : List Int} {i j : Nat} {x : Int} (h : ls[j]? = some x) (l : j < i) : x ∈ ls.take i := by
  obtain ⟨hj, e⟩ := List.getElem?_eq_some_iff.mp h
  rw [← e]
  exact List.mem_take_iff_getElem.mpr ⟨j, by omega, rfl⟩
def tieD (t : Tie) : PyData := .list [.int t.1, .int t.2]
def netD (ts : List Tie) : PyData := .list (ts.map tieD)
theorem ints_perm {ys : List V} {ns : List Int} (h : ys.Perm (ns.map V.int)) : ∃ ls : List Int, ys = ls.map V.int ∧ ls.Perm ns := by
  let un : V → Int := fun v => match v with
    | .int i => i
    | _ => 0
  have e : ∀ l : List Int, (l.map V.int).map un = l := fun l => by
    rw [List.map_map]
    exact (List.map_congr_left (fun _ _ => rfl)).trans (List.map_id l)
  refine ⟨ys.map un, ?_, by rw [← e ns]; exact h.map un⟩
  have all : ∀ y ∈ ys, V.int (un y) = y := fun y hy => by
    obtain ⟨i, _, rfl⟩ := List.mem_map.mp (h.mem_iff.mp hy)
    rfl
  rw [List.map_map]
  exact ((List.map_congr_left (f := V.int ∘ un) (g := id) all).trans (List.map_id ys)).symm
/-- 1, 2 .. n -/
def up (n : Nat) : List Int := (List.range n).map fun i => (1 : Int) + (i : Nat)
theorem up_mem {n : Nat} {x : Int} : x ∈ up n ↔ 1 ≤ x ∧ x ≤ n := by
  unfold up
  rw [List.mem_map]
  constructor
  · rintro ⟨i, hi, rfl⟩
    have := List.mem_range.mp hi
    omega
  · intro ⟨h1, h2⟩
    exact ⟨(x - 1).toNat, List.mem_range.mpr (by omega), by omega⟩
theorem up_length (n : Nat) : (up n).length = n := by simp [up]
theorem up_nodup (n : Nat) : (up n).Nodup := by
  unfold up
  exact List.Pairwise.map _ (fun a b h => by omega) List.nodup_range
theorem rgV_up (n : Nat) : rgV 1 ((n : Int) + 1) = (up n).map V.int := by
  unfold rgV up
  rw [List.map_map, show ((n : Int) + 1 - 1).toNat = n by omega]
  rfl
end Ap


/-! N1: what hangs together, by gluing ties one after the other. -/
namespace Ap
def glue (m : Int → Int) (t : Tie) : Int → Int := fun x => if m x = max (m t.1) (m t.2) then min (m t.1) (m t.2) else m x
/-- the least seat that hangs together with x -/
def kin (ts : List Tie) : Int → Int := ts.foldl glue id
theorem kin_nil (x : Int) : kin [] x = x := rfl
theorem kin_snoc (ts : List Tie) (t : Tie) : kin (ts ++ [t]) = glue (kin ts) t := by
  unfold kin
  rw [List.foldl_append]; rfl
theorem snoc_ind {α : Type} {P : List α → Prop} (h0 : P []) (hs : ∀ l a, P l → P (l ++ [a])) : ∀ l, P l := fun l => by
  have key : ∀ n (l : List α), l.length = n → P l := by
    intro n
    induction n with
    | zero => intro l e; rw [List.eq_nil_of_length_eq_zero e]; exact h0
    | succ n ih =>
      intro l e
      have ne : l ≠ [] := fun z => by rw [z] at e; cases e
      rw [← List.dropLast_concat_getLast ne]
      exact hs _ _ (ih _ (by rw [List.length_dropLast]; omega))
  exact key _ l rfl
theorem kin_le (ts : List Tie) : ∀ x, kin ts x ≤ x := by
  induction ts using snoc_ind with
  | h0 => intro x; exact Int.le_refl x
  | hs ts t ih =>
    intro x
    rw [kin_snoc]
    unfold glue
    have := ih x
    split <;> omega
theorem kin_mk (ts : List Tie) : ∀ x, kin ts (kin ts x) = kin ts x := by
  induction ts using snoc_ind with
  | h0 => intro x; rfl
  | hs ts t ih =>
    intro x
    rw [kin_snoc]
    have a := ih t.1
    have b := ih t.2
    have c := ih x
    have low : kin ts (min (kin ts t.1) (kin ts t.2)) = min (kin ts t.1) (kin ts t.2) := by
      rcases Int.le_total (kin ts t.1) (kin ts t.2) with h | h
      · rw [Int.min_eq_left h, a]
      · rw [Int.min_eq_right h, b]
    show glue (kin ts) t (glue (kin ts) t x) = glue (kin ts) t x
    by_cases h : kin ts x = max (kin ts t.1) (kin ts t.2)
    · have e : glue (kin ts) t x = min (kin ts t.1) (kin ts t.2) := if_pos h
      rw [e]
      unfold glue
      rw [low]
      split <;> omega
    · have e : glue (kin ts) t x = kin ts x := if_neg h
      rw [e]
      unfold glue
      rw [c, if_neg h]
theorem kin_tie (ts : List Tie) : ∀ t ∈ ts, kin ts t.1 = kin ts t.2 := by
  induction ts using snoc_ind with
  | h0 => intro t h; cases h
  | hs ts u ih =>
    intro t h
    rw [kin_snoc]
    unfold glue
    rcases List.mem_append.mp h with h | h
    · rw [ih t h]
    · obtain rfl := List.mem_singleton.mp h
      split <;> split <;> omega
/-- what is closed under ties is so for all that hang together -/
theorem kin_closed (ts : List Tie) : ∀ (C : Int → Prop), (∀ t ∈ ts, C t.1 ↔ C t.2) → ∀ x y, kin ts x = kin ts y → (C x ↔ C y) := by
  induction ts using snoc_ind with
  | h0 => intro C _ x y e; rw [show x = y from e]
  | hs ts t ih =>
    intro C hC x y e
    have h1 := ih C fun s hs => hC s (List.mem_append_left _ hs)
    have h2 := hC t (List.mem_append_right _ (List.mem_singleton.mpr rfl))
    rw [kin_snoc] at e
    unfold glue at e
    have ends : ∀ z, kin ts z = max (kin ts t.1) (kin ts t.2) ∨ kin ts z = min (kin ts t.1) (kin ts t.2) → (C z ↔ C t.1) := fun z hz => by
      have : kin ts z = kin ts t.1 ∨ kin ts z = kin ts t.2 := by omega
      rcases this with q | q
      · exact h1 z t.1 q
      · exact (h1 z t.2 q).trans h2.symm
    by_cases hx : kin ts x = max (kin ts t.1) (kin ts t.2)
    · rw [if_pos hx] at e
      by_cases hy : kin ts y = max (kin ts t.1) (kin ts t.2)
      · exact h1 x y (hx.trans hy.symm)
      · rw [if_neg hy] at e
        exact (ends x (.inl hx)).trans (ends y (.inr e.symm)).symm
    · rw [if_neg hx] at e
      by_cases hy : kin ts y = max (kin ts t.1) (kin ts t.2)
      · rw [if_pos hy] at e
        exact (ends x (.inr e)).trans (ends y (.inl hy)).symm
      · rw [if_neg hy] at e
        exact h1 x y e
theorem kin_in {S : List Int} {ts : List Tie} (h : ∀ t ∈ ts, t.1 ∈ S ∧ t.2 ∈ S) {x : Int} (hx : x ∈ S) : kin ts x ∈ S := by
  refine (kin_closed ts (· ∈ S) (fun t ht => ?_) x (kin ts x) (kin_mk ts x).symm).mp hx
  exact ⟨fun _ => (h t ht).2, fun _ => (h t ht).1⟩
/-- a search from s: ks: found, la: to be looked at, ex: being looked at; ks0: found ahead of it -/
structure Dfs (n : Nat) (ts : List Tie) (ks0 : List Int) (s : Int) (ex : Int → Prop) (ks la : List Int) : Prop where
  nd : ks.Nodup
  sub : ∀ x ∈ ks, x ∈ up n
  old : ∀ x ∈ ks0, x ∈ ks
  new : ∀ x ∈ ks, x ∈ ks0 ∨ kin ts x = s
  here : s ∈ ks
  st : ∀ x ∈ la, x ∈ ks ∧ kin ts x = s
  done : ∀ x ∈ ks, kin ts x = s → x ∉ la → ¬ ex x → ∀ y, (x, y) ∈ ts ∨ (y, x) ∈ ts → y ∈ ks
/-- what has been found ahead: all that hangs together with 1 .. i -/
structure Found (n : Nat) (ts : List Tie) (i : Nat) (ks : List Int) : Prop where
  nd : ks.Nodup
  sub : ∀ x ∈ ks, x ∈ up n
  has : ∀ x ∈ up i, x ∈ ks
  cl : ∀ x ∈ ks, ∀ y ∈ up n, kin ts y = kin ts x → y ∈ ks
theorem Found.nil (n : Nat) (ts : List Tie) : Found n ts 0 [] := ⟨List.nodup_nil, fun _ h => (nomatch h), fun x h => (by have := up_mem.mp h; omega), fun _ h => (nomatch h)⟩
theorem Found.root {n i : Nat} {ts : List Tie} {ks : List Int} (F : Found n ts i ks) (hN : NetS (up n) ts) (hi : i < n) (h : ((i : Int) + 1) ∉ ks) : kin ts ((i : Int) + 1) = (i : Int) + 1 := by
  have m := kin_in (fun t ht => ⟨(hN.mem t ht).1, (hN.mem t ht).2.1⟩) (up_mem.mpr ⟨by omega, by omega⟩ : ((i : Int) + 1) ∈ up n)
  have le := kin_le ts ((i : Int) + 1)
  by_cases c : kin ts ((i : Int) + 1) = (i : Int) + 1
  · exact c
  · have b := up_mem.mp m
    exact absurd (F.cl _ (F.has _ (up_mem.mpr ⟨b.1, by omega⟩)) _ (up_mem.mpr ⟨by omega, by omega⟩) (kin_mk ts _).symm) h
theorem Found.more {n i : Nat} {ts : List Tie} {ks : List Int} (F : Found n ts i ks) (h : ((i : Int) + 1) ∈ ks) : Found n ts (i + 1) ks := by
  refine ⟨F.nd, F.sub, fun x hx => ?_, F.cl⟩
  have b := up_mem.mp hx
  by_cases c : x = (i : Int) + 1
  · rw [c]; exact h
  · exact F.has x (up_mem.mpr ⟨b.1, by omega⟩)
theorem Dfs.start {n i : Nat} {ts : List Tie} {ks : List Int} (F : Found n ts i ks) (hN : NetS (up n) ts) (hi : i < n) (h : ((i : Int) + 1) ∉ ks) : Dfs n ts ks ((i : Int) + 1) (fun _ => False) (ks ++ [(i : Int) + 1]) [(i : Int) + 1] := by
  have r := F.root hN hi h
  have s : ∀ x, x ∈ ks ++ [(i : Int) + 1] → x ∈ ks ∨ x = (i : Int) + 1 := fun x hx => (List.mem_append.mp hx).imp id List.mem_singleton.mp
  refine ⟨List.nodup_append.mpr ⟨F.nd, List.nodup_cons.mpr ⟨(nomatch ·), List.nodup_nil⟩, fun a ha b hb z => h ?_⟩, fun x hx => ?_, fun x hx => List.mem_append_left _ hx, fun x hx => ?_, List.mem_append_right _ (List.mem_singleton.mpr rfl), fun x hx => ?_, fun x hx e nl _ => ?_⟩
  · rw [← List.mem_singleton.mp hb, ← z]; exact ha
  · rcases s x hx with q | rfl
    · exact F.sub x q
    · exact up_mem.mpr ⟨by omega, by omega⟩
  · rcases s x hx with q | rfl
    · exact .inl q
    · exact .inr r
  · obtain rfl := List.mem_singleton.mp hx
    exact ⟨List.mem_append_right _ hx, r⟩
  · rcases s x hx with q | rfl
    · exact absurd (F.cl x q _ (up_mem.mpr ⟨by omega, by omega⟩) (r.trans e.symm)) h
    · exact absurd (List.mem_singleton.mpr rfl) nl
theorem Dfs.stop {n i : Nat} {ts : List Tie} {ks0 ks : List Int} (F : Found n ts i ks0) (hi : i < n) (h : ((i : Int) + 1) ∉ ks0) (D : Dfs n ts ks0 ((i : Int) + 1) (fun _ => False) ks []) (r : kin ts ((i : Int) + 1) = (i : Int) + 1) : Found n ts (i + 1) ks := by
  have key : ∀ y, kin ts y = (i : Int) + 1 → y ∈ ks := fun y hy => by
    have := (kin_closed ts (fun x => x ∈ ks ∧ kin ts x = (i : Int) + 1) (fun t ht => ?_) ((i : Int) + 1) y (r.trans hy.symm)).mp ⟨D.here, r⟩
    · exact this.1
    · have e := kin_tie ts t ht
      constructor
      · rintro ⟨a, b⟩
        exact ⟨D.done _ a b (nomatch ·) id _ (.inl ht), e ▸ b⟩
      · rintro ⟨a, b⟩
        exact ⟨D.done _ a b (nomatch ·) id _ (.inr ht), e ▸ b⟩
  refine Found.more (i := i) ⟨D.nd, D.sub, fun x hx => D.old x (F.has x hx), fun x hx y hy e => ?_⟩ D.here
  rcases D.new x hx with q | q
  · exact D.old y (F.cl x q y hy e)
  · exact key y (e.trans q)
/-- the last one is taken to be looked at -/
theorem Dfs.take {n : Nat} {ts : List Tie} {ks0 ks la : List Int} {s u : Int} (D : Dfs n ts ks0 s (fun _ => False) ks (la ++ [u])) : Dfs n ts ks0 s (· = u) ks la :=
  ⟨D.nd, D.sub, D.old, D.new, D.here, fun x hx => D.st x (List.mem_append_left _ hx), fun x hx e nl nu => D.done x hx e (fun z => by
    rcases List.mem_append.mp z with z | z
    · exact nl z
    · exact nu (List.mem_singleton.mp z)) id⟩
theorem Dfs.push {n : Nat} {ts : List Tie} {ks0 ks la : List Int} {s u y : Int} (D : Dfs n ts ks0 s (· = u) ks la) (h : y ∉ ks) (hy : y ∈ up n) (e : kin ts y = s) : Dfs n ts ks0 s (· = u) (ks ++ [y]) (la ++ [y]) := by
  have s' : ∀ x, x ∈ ks ++ [y] → x ∈ ks ∨ x = y := fun x hx => (List.mem_append.mp hx).imp id List.mem_singleton.mp
  refine ⟨List.nodup_append.mpr ⟨D.nd, List.nodup_cons.mpr ⟨(nomatch ·), List.nodup_nil⟩, fun a ha b hb z => h ?_⟩, fun x hx => ?_, fun x hx => List.mem_append_left _ (D.old x hx), fun x hx => ?_, List.mem_append_left _ D.here, fun x hx => ?_, fun x hx e' nl nu z hz => ?_⟩
  · rw [← List.mem_singleton.mp hb, ← z]; exact ha
  · rcases s' x hx with q | rfl
    · exact D.sub x q
    · exact hy
  · rcases s' x hx with q | rfl
    · exact D.new x q
    · exact .inr e
  · rcases List.mem_append.mp hx with q | q
    · exact ⟨List.mem_append_left _ (D.st x q).1, (D.st x q).2⟩
    · obtain rfl := List.mem_singleton.mp q
      exact ⟨List.mem_append_right _ q, e⟩
  · rcases s' x hx with q | rfl
    · exact List.mem_append_left _ (D.done x q e' (fun c => nl (List.mem_append_left _ c)) nu z hz)
    · exact absurd (List.mem_append_right _ (List.mem_singleton.mpr rfl)) nl
theorem Dfs.end {n : Nat} {ts : List Tie} {ks0 ks la : List Int} {s u : Int} (D : Dfs n ts ks0 s (· = u) ks la) (h : ∀ y, (u, y) ∈ ts ∨ (y, u) ∈ ts → y ∈ ks) : Dfs n ts ks0 s (fun _ => False) ks la :=
  ⟨D.nd, D.sub, D.old, D.new, D.here, D.st, fun x hx e nl _ y hy => by
    by_cases c : x = u
    · subst c; exact h y hy
    · exact D.done x hx e nl c y hy⟩
/-- the parts, by their least seats -/
def rootsOf (ts : List Tie) (n : Nat) : List Int := (up n).filter fun r => kin ts r = r
def partOf (ts : List Tie) (n : Nat) (r : Int) : List Int := (up n).filter fun x => kin ts x = r
def partsOf (n : Nat) (ts : List Tie) : List (List Int) := (rootsOf ts n).map (partOf ts n)
def intsD (ns : List Int) : PySem.PyData := .list (ns.map PySem.PyData.int)
def listsD (ls : List (List Int)) : PySem.PyData := .list (ls.map intsD)
theorem up_succ (n : Nat) : up (n + 1) = up n ++ [(n : Int) + 1] := by
  unfold up
  rw [List.range_succ, List.map_append]
  simp [Int.add_comm]
end Ap


/-! K4: how long a repr gets. -/
namespace Ap
open PySem L2 PySem.Spec
theorem textFrom_up : ∀ (ts : List Str) (k : Nat) (acc : Str), (textFrom k acc ts).length ≤ acc.length + piled ts
  | [], _, acc => Nat.le_refl _
  | t :: r, k, acc => by
    have h := textFrom_up r (k + 1) (acc ++ (if k > 0 then ", " else "" : String) ++ t)
    rw [strLen_append, strLen_append] at h
    have h2 : ((if k > 0 then ", " else "" : String) : Str).length ≤ 2 := by split <;> decide
    have h3 : piled (t :: r) = t.length + 2 + piled r := by simp [piled]
    show (textFrom (k + 1) (acc ++ (if k > 0 then ", " else "" : String) ++ t) r).length ≤ _
    omega
theorem listText_up (ts : List Str) : (listText ts).length ≤ piled ts + 2 := by
  unfold listText
  rw [strLen_append]
  have h := textFrom_up ts 0 "["
  have h1 : (("[" : String) : Str).length = 1 := by decide
  have h2 : (("]" : String) : Str).length = 1 := by decide
  omega
theorem shownAll_map : ∀ xs : List PyData, PyData.shownAll xs = xs.map PyData.shown
  | [] => by simp only [PyData.shownAll, List.map_nil]
  | x :: r => by simp only [PyData.shownAll, List.map_cons, shownAll_map r]
/-- items of at most b signs each -/
theorem list_up {xs : List PyData} {b : Nat} (h : ∀ x ∈ xs, x.shown.length ≤ b) : (PyData.list xs).shown.length ≤ (b + 2) * xs.length + 2 := by
  simp only [PyData.shown, shownAll_map]
  refine Nat.le_trans (listText_up _) (Nat.add_le_add_right ?_ 2)
  induction xs with
  | nil => simp [piled]
  | cons x r ih =>
    have h1 := h x List.mem_cons_self
    have h2 := ih fun y hy => h y (List.mem_cons_of_mem _ hy)
    have h3 : piled ((x :: r).map PyData.shown) = x.shown.length + 2 + piled (r.map PyData.shown) := by simp [piled]
    rw [h3, List.length_cons, Nat.mul_add]
    omega
theorem showAll {xs : List PyData} (h : ∀ x ∈ xs, x.showable = true) : (PyData.list xs).showable = true := by
  simp only [PyData.showable]
  induction xs with
  | nil => simp only [PyData.showableAll]
  | cons x r ih => simp only [PyData.showableAll, h x List.mem_cons_self, ih fun y hy => h y (List.mem_cons_of_mem _ hy), Bool.and_self]
theorem depthAll {xs : List PyData} {b : Nat} (h : ∀ x ∈ xs, x.depth ≤ b) : (PyData.list xs).depth ≤ b + 1 := by
  simp only [PyData.depth]
  induction xs with
  | nil => simp only [PyData.depthAll]; omega
  | cons x r ih =>
    have h1 := h x List.mem_cons_self
    have h2 := ih fun y hy => h y (List.mem_cons_of_mem _ hy)
    simp only [PyData.depthAll]
    omega
/-- can be shown, within b signs, d deep -/
structure Shw (x : PyData) (b d : Nat) : Prop where
  ok : x.showable = true
  len : x.shown.length ≤ b
  dp : x.depth ≤ d
theorem Shw.list {xs : List PyData} {b d n : Nat} (h : ∀ x ∈ xs, Shw x b d) (hn : xs.length ≤ n) : Shw (.list xs) ((b + 2) * n + 2) (d + 1) :=
  ⟨showAll fun x hx => (h x hx).ok, Nat.le_trans (list_up fun x hx => (h x hx).len) (Nat.add_le_add_right (Nat.mul_le_mul_left _ hn) 2), depthAll fun x hx => (h x hx).dp⟩
theorem small_len : ∀ i : Fin 100, ((toString ((i.val : Nat) : Int) : String) : Str).length ≤ 2 := by decide +kernel
theorem Shw.int {i : Int} (h1 : 0 ≤ i) (h2 : i < 100) : Shw (.int i) 2 0 := by
  obtain ⟨k, rfl⟩ : ∃ k : Nat, i = k := ⟨i.toNat, by omega⟩
  refine ⟨?_, ?_, by simp only [PyData.depth]; omega⟩
  · simp only [PyData.showable]
    refine decide_eq_true (Nat.lt_of_le_of_lt (Nat.log2_le_self _) ?_)
    show (k : Int).natAbs < 1920
    omega
  · simp only [PyData.shown]
    exact small_len ⟨k, by omega⟩
theorem Shw.bool (b : Bool) : Shw (.bool b) 5 0 := by
  refine ⟨by simp only [PyData.showable], ?_, by simp only [PyData.depth]; omega⟩
  simp only [PyData.shown]
  cases b <;> decide
theorem Shw.ints {ns : List Int} {n : Nat} (h : ∀ x ∈ ns, 0 ≤ x ∧ x < 100) (hn : ns.length ≤ n) : Shw (intsD ns) (4 * n + 2) 1 :=
  Shw.list (b := 2) (d := 0) (fun x hx => by
    obtain ⟨i, hi, rfl⟩ := List.mem_map.mp hx
    exact Shw.int (h i hi).1 (h i hi).2) (by rw [List.length_map]; exact hn)
theorem Shw.net {n : Nat} {ts : List Tie} (h : NetS (up n) ts) (hn : n ≤ 40) (few : ts.length ≤ 900) : Shw (netD ts) 20000 2 := by
  have := Shw.list (xs := ts.map tieD) (b := 10) (d := 1) (n := 900) (fun x hx => by
    obtain ⟨t, ht, rfl⟩ := List.mem_map.mp hx
    obtain ⟨m1, m2, _⟩ := h.mem t ht
    have b1 := up_mem.mp m1
    have b2 := up_mem.mp m2
    exact Shw.ints (ns := [t.1, t.2]) (n := 2) (fun x hx => by
      simp at hx
      rcases hx with rfl | rfl
      · omega
      · omega) (Nat.le_refl _)) (by rw [List.length_map]; exact few)
  exact ⟨this.ok, Nat.le_trans this.len (by decide), this.dp⟩
theorem Shw.parts {n : Nat} {ts : List Tie} (hn : n ≤ 40) : Shw (listsD (partsOf n ts)) 8000 2 := by
  have sub : ∀ {p : Int → Bool}, ((up n).filter p).length ≤ 40 := fun {p} => Nat.le_trans (List.length_filter_le _ _) (by rw [up_length]; exact hn)
  have := Shw.list (xs := (partsOf n ts).map intsD) (b := 4 * 40 + 2) (d := 1) (n := 40) (fun x hx => by
    obtain ⟨l, hl, rfl⟩ := List.mem_map.mp hx
    obtain ⟨r, _, rfl⟩ := List.mem_map.mp hl
    exact Shw.ints (fun y hy => by
      have := up_mem.mp (List.mem_filter.mp hy).1
      omega) sub) (by rw [List.length_map]; unfold partsOf; rw [List.length_map]; exact sub)
  exact ⟨this.ok, Nat.le_trans this.len (by decide), this.dp⟩
theorem Shw.two {a b : PyData} {n d : Nat} (h1 : Shw a n d) (h2 : Shw b n d) : Shw (.list [a, b]) ((n + 2) * 2 + 2) (d + 1) :=
  Shw.list (fun x hx => by
    simp at hx
    rcases hx with rfl | rfl
    · exact h1
    · exact h2) (Nat.le_refl _)
theorem g_rep {K : PySem.W.Frag} {H : Hp} {Q : VK} {p : Addr} {d : PyData} {b e : Nat} (hd : Dp K H (.ref p) d) (s : Shw d b e) (hb : b ≤ 1000000) (he : e < 60) (h : Q (.str d.shown) H) : rRep K [.ref p] H Q :=
  g_repr hd s.ok (Nat.lt_of_le_of_lt s.dp he) (Nat.le_trans s.len (triv_sz hb)) h
end Ap


/-! K5: more steps: lists put together, turned round; permuted data. -/
namespace Ap
open PySem L2 PySem.Spec PyProof.Rows
section
variable {K : PySem.W.Frag} {σ : L2.St} {H : Hp} {Q : VK} {te : TE}
theorem g_cat {l b : Addr} {xs zs : List V} (e : H l = some (.lst xs)) (e2 : H b = some (.lst zs)) (h : xs.length + zs.length ≤ sizeLine) (k : ∀ p, H p = none → Q (.ref p) (upd H p (.lst (xs ++ zs)))) : rCat (.ref l) (.ref b) H Q := ⟨l, b, xs, zs, rfl, rfl, e, e2, h, k⟩
def kRv (K : PySem.W.Frag) (Q : VK) : VK := fun x H1 => ∃ a xs, x = .ref a ∧ SqL K H1 a xs ∧ ∀ p, H1 p = none → Q (.ref p) (upd H1 p (.lst xs.reverse))
instance i_revL : St (tRevL K te σ H Q) (te σ H (kRv K Q)) := ⟨id⟩
theorem g_kRv {a : Addr} {xs : List V} (e : H a = some (.lst xs)) (h : ∀ p, H p = none → Q (.ref p) (upd H p (.lst xs.reverse))) : kRv K Q (.ref a) H := ⟨a, xs, rfl, SqL.of e, h⟩
end
theorem cut_any {xs : List V} {k : Nat} {i : Int} (e : i = (k : Int)) : cutV xs none (some i) = xs.take k := by
  subst e
  unfold cutV
  rw [HT.sIx_none, HT.sIx_nat, List.drop_zero, Nat.sub_zero]
  by_cases h : k ≤ xs.length
  · rw [Nat.min_eq_left h]
  · rw [Nat.min_eq_right (by omega), List.take_of_length_le (Nat.le_refl _), List.take_of_length_le (by omega)]
/-- data in another order -/
theorem DaAll.perm {α : Type} {f : α → PyData} {P : Addr → Prop} {H : Hp} {ys xs : List V} (p : ys.Perm xs) : ∀ {ts : List α}, DaAll P H xs (ts.map f) → ∃ us : List α, us.Perm ts ∧ DaAll P H ys (us.map f) := by
  induction p with
  | nil =>
    intro ts h
    match ts, h with
    | [], h => exact ⟨[], .nil, h⟩
  | cons x _ ih =>
    intro ts h
    match ts, h with
    | t :: r, .cons h1 h2 =>
      obtain ⟨us, p, h⟩ := ih h2
      exact ⟨t :: us, p.cons t, .cons h1 h⟩
  | swap x y l =>
    intro ts h
    match ts, h with
    | t :: u :: r, .cons h1 (.cons h2 h3) => exact ⟨u :: t :: r, .swap t u r, .cons h2 (.cons h1 h3)⟩
  | trans _ _ ih1 ih2 =>
    intro ts h
    obtain ⟨us, p, h⟩ := ih2 h
    obtain ⟨ws, p2, h⟩ := ih1 h
    exact ⟨ws, p2.trans p, h⟩
theorem Apart.symm {s t : Tie} (h : Apart s t) : Apart t s := ⟨fun z => h.1 ⟨z.1.symm, z.2.symm⟩, fun z => h.2 ⟨z.2.symm, z.1.symm⟩⟩
theorem NetS.perm {S : List Int} {ts us : List Tie} (h : NetS S ts) (p : us.Perm ts) : NetS S us :=
  ⟨fun t ht => h.mem t (p.mem_iff.mp ht), (List.Perm.pairwise_iff (fun {_ _} => Apart.symm) p).mpr h.ap⟩
/-- the same tie, its seats perhaps the other way -/
def Sw (t s : Tie) : Prop := s = t ∨ s = (t.2, t.1)
theorem Sw.apart {a b c d : Tie} (h : Apart a b) (h1 : Sw a c) (h2 : Sw b d) : Apart c d := by
  obtain ⟨p, q⟩ := h
  rcases h1 with rfl | rfl
  · rcases h2 with rfl | rfl
    · exact ⟨p, q⟩
    · exact ⟨q, p⟩
  · rcases h2 with rfl | rfl
    · exact ⟨fun z => q ⟨z.2, z.1⟩, fun z => p ⟨z.2, z.1⟩⟩
    · exact ⟨fun z => p ⟨z.2, z.1⟩, fun z => q ⟨z.2, z.1⟩⟩
theorem NetS.turn {S : List Int} {us ps : List Tie} (h : NetS S us) (l : ps.length = us.length) (r : ∀ (k : Nat) t s, us[k]? = some t → ps[k]? = some s → Sw t s) : NetS S ps := by
  constructor
  · intro s hs
    obtain ⟨k, hk, rfl⟩ := List.getElem_of_mem hs
    have := r k us[k] ps[k] (List.getElem?_eq_getElem (by omega)) (List.getElem?_eq_getElem hk)
    obtain ⟨a, b, c⟩ := h.mem us[k] (List.getElem_mem (by omega))
    rcases this with e | e
    · rw [e]; exact ⟨a, b, c⟩
    · rw [e]; exact ⟨b, a, Ne.symm c⟩
  · refine List.pairwise_iff_getElem.mpr fun i j hi hj lt => ?_
    have ap := List.pairwise_iff_getElem.mp h.ap i j (by omega) (by omega) lt
    exact Sw.apart ap (r i _ _ (List.getElem?_eq_getElem (by omega)) (List.getElem?_eq_getElem hi)) (r j _ _ (List.getElem?_eq_getElem (by omega)) (List.getElem?_eq_getElem hj))
theorem DaAll.take {P : Addr → Prop} {H : Hp} : ∀ (k : Nat) {vs : List V} {ds : List PyData}, DaAll P H vs ds → DaAll P H (vs.take k) (ds.take k)
  | 0, _, _, _ => .nil
  | k + 1, _, _, .nil => .nil
  | k + 1, _, _, .cons h t => .cons h (DaAll.take k t)
end Ap


/-! P0: calls and rounds, plainly. -/
namespace Ap
def sw (a b x : Int) : Int := if x = a then b else if x = b then a else x
theorem sw_l (a b : Int) : sw a b a = b := if_pos rfl
theorem sw_r (a b : Int) : sw a b b = a := by
  unfold sw
  split
  · rename_i h; exact h
  · rw [if_pos rfl]
theorem sw_o {a b x : Int} (h : x ≠ a) (h' : x ≠ b) : sw a b x = x := by
  unfold sw
  rw [if_neg h, if_neg h']
theorem sw_sw (a b x : Int) : sw a b (sw a b x) = x := by
  by_cases h : x = a
  · subst h; rw [sw_l, sw_r]
  · by_cases h' : x = b
    · subst h'; rw [sw_r, sw_l]
    · rw [sw_o h h', sw_o h h']
theorem sw_inj {a b x y : Int} (h : sw a b x = sw a b y) : x = y := by rw [← sw_sw a b x, h, sw_sw]
theorem sw_mem {a b x : Int} {S : List Int} (ha : a ∈ S) (hb : b ∈ S) : sw a b x ∈ S ↔ x ∈ S := by
  by_cases h : x = a
  · subst h; rw [sw_l]; exact ⟨fun _ => ha, fun _ => hb⟩
  · by_cases h' : x = b
    · subst h'; rw [sw_r]; exact ⟨fun _ => hb, fun _ => ha⟩
    · rw [sw_o h h']
/-- the seat of a person, from 1 on -/
def seat (row : List Int) (p : Int) : Int := (row.idxOf p : Int) + 1
theorem idxOf_map {f : Int → Int} (hf : ∀ x, f (f x) = x) : ∀ (row : List Int) (p : Int), (row.map f).idxOf p = row.idxOf (f p)
  | [], p => rfl
  | x :: r, p => by
    rw [List.map_cons, List.idxOf_cons, List.idxOf_cons, idxOf_map hf r p]
    have e : (f x == p) = (x == f p) := by
      rw [Bool.eq_iff_iff, beq_iff_eq, beq_iff_eq]
      exact ⟨fun z => by rw [← z, hf], fun z => by rw [z, hf]⟩
    rw [e]
theorem seat_map (row : List Int) (a b p : Int) : seat (row.map (sw a b)) p = seat row (sw a b p) := by
  unfold seat
  rw [idxOf_map (sw_sw a b)]
/-- the one next round the clock -/
def nx (n c : Int) : Int := c % n + 1
theorem nx_mem {n : Nat} {c : Int} (h : 1 ≤ n) : nx n c ∈ up n := up_mem.mpr (by
  unfold nx
  have := Int.emod_nonneg c (b := n) (by omega)
  have := Int.emod_lt_of_pos c (b := n) (by omega)
  omega)
theorem nx_eq {n : Nat} {c : Int} (h : c ∈ up n) : nx n c = if c = n then 1 else c + 1 := by
  have := up_mem.mp h
  unfold nx
  split
  · rename_i e; subst e; rw [Int.emod_self]; rfl
  · rw [Int.emod_eq_of_lt (by omega) (by omega)]
theorem nx_ne {n : Nat} {c : Int} (h : c ∈ up n) (hn : 2 ≤ n) : nx n c ≠ c := by
  have := up_mem.mp h
  rw [nx_eq h]
  split <;> omega
def Tied (ts : List Tie) (x y : Int) : Prop := (x, y) ∈ ts ∨ (y, x) ∈ ts
instance (ts : List Tie) (x y : Int) : Decidable (Tied ts x y) := inferInstanceAs (Decidable (_ ∨ _))
theorem Tied.symm {ts : List Tie} {x y : Int} (h : Tied ts x y) : Tied ts y x := Or.symm h
def step (ts : List Tie) (n : Int) (row : List Int) (c : Int) : List Int := if Tied ts (seat row c) (seat row (nx n c)) then row else row.map (sw c (nx n c))
def moved (ts : List Tie) (n : Int) (row cs : List Int) : List Int := cs.foldl (step ts n) row
/-- how many people changed seats -/
def chg (ts : List Tie) (n : Int) : List Int → List Int → Nat
  | _, [] => 0
  | row, c :: cs => (if Tied ts (seat row c) (seat row (nx n c)) then 0 else 1) + chg ts n (step ts n row c) cs
theorem moved_snoc (ts : List Tie) (n : Int) (row cs : List Int) (c : Int) : moved ts n row (cs ++ [c]) = step ts n (moved ts n row cs) c := by
  unfold moved
  rw [List.foldl_append]; rfl
theorem moved_app (ts : List Tie) (n : Int) (row cs ds : List Int) : moved ts n row (cs ++ ds) = moved ts n (moved ts n row cs) ds := by
  unfold moved
  rw [List.foldl_append]
theorem chg_snoc (ts : List Tie) (n : Int) (c : Int) : ∀ (cs row : List Int), chg ts n row (cs ++ [c]) = chg ts n row cs + (if Tied ts (seat (moved ts n row cs) c) (seat (moved ts n row cs) (nx n c)) then 0 else 1)
  | [], row => by
    show _ + 0 = 0 + _
    rw [Nat.zero_add]; rfl
  | d :: cs, row => by
    show _ + chg ts n (step ts n row d) (cs ++ [c]) = _ + chg ts n (step ts n row d) cs + _
    rw [chg_snoc ts n c cs, Nat.add_assoc]
    rfl
theorem chg_le (ts : List Tie) (n : Int) : ∀ (cs row : List Int), chg ts n row cs ≤ cs.length
  | [], row => Nat.le_refl _
  | d :: cs, row => by
    have := chg_le ts n cs (step ts n row d)
    show _ + _ ≤ cs.length + 1
    split <;> omega
/-- a standing: all people, each once -/
def Stand (n : Nat) (row : List Int) : Prop := row.Perm (up n)
theorem Stand.length {n : Nat} {row : List Int} (h : Stand n row) : row.length = n := h.length_eq.trans (up_length n)
theorem Stand.nodup {n : Nat} {row : List Int} (h : Stand n row) : row.Nodup := h.nodup_iff.mpr (up_nodup n)
theorem Stand.mem {n : Nat} {row : List Int} (h : Stand n row) {x : Int} : x ∈ row ↔ x ∈ up n := h.mem_iff
theorem Stand.rev {n : Nat} {row : List Int} (h : Stand n row) : Stand n row.reverse := (List.reverse_perm row).trans h
theorem nodup_map_inj {f : Int → Int} (hf : ∀ x y, f x = f y → x = y) : ∀ {l : List Int}, l.Nodup → (l.map f).Nodup
  | [], _ => List.nodup_nil
  | a :: r, h => by
    obtain ⟨h1, h2⟩ := List.nodup_cons.mp h
    refine List.nodup_cons.mpr ⟨fun z => ?_, nodup_map_inj hf h2⟩
    obtain ⟨y, hy, e⟩ := List.mem_map.mp z
    exact h1 (hf _ _ e ▸ hy)
theorem stand_map {n : Nat} {row : List Int} (h : Stand n row) {a b : Int} (ha : a ∈ up n) (hb : b ∈ up n) : Stand n (row.map (sw a b)) := by
  refine (List.perm_ext_iff_of_nodup (nodup_map_inj (fun x y => sw_inj) h.nodup) (up_nodup n)).mpr fun x => ?_
  constructor
  · intro z
    obtain ⟨y, hy, rfl⟩ := List.mem_map.mp z
    exact (sw_mem ha hb).mpr (h.mem.mp hy)
  · intro z
    exact List.mem_map.mpr ⟨sw a b x, h.mem.mpr ((sw_mem ha hb).mpr z), sw_sw a b x⟩
theorem step_stand {ts : List Tie} {n : Nat} {row : List Int} {c : Int} (h : Stand n row) (hc : c ∈ up n) : Stand n (step ts n row c) := by
  unfold step
  split
  · exact h
  · exact stand_map h hc (nx_mem (by have := up_mem.mp hc; omega))
theorem moved_stand {ts : List Tie} {n : Nat} : ∀ {cs row : List Int}, Stand n row → (∀ c ∈ cs, c ∈ up n) → Stand n (moved ts n row cs)
  | [], row, h, _ => h
  | c :: cs, row, h, hc => moved_stand (cs := cs) (step_stand h (hc c List.mem_cons_self)) fun d hd => hc d (List.mem_cons_of_mem _ hd)
/-- a call made twice does nothing -/
theorem step_step (ts : List Tie) (n : Int) (row : List Int) (c : Int) : step ts n (step ts n row c) c = row := by
  unfold step
  by_cases h : Tied ts (seat row c) (seat row (nx n c))
  · rw [if_pos h, if_pos h]
  · rw [if_neg h]
    rw [if_neg (fun z => h ?_), List.map_map, show (sw c (nx n c) ∘ sw c (nx n c)) = id from funext fun x => sw_sw _ _ x, List.map_id]
    rw [seat_map, seat_map, sw_l, sw_r] at z
    exact z.symm
theorem moved_back (ts : List Tie) (n : Int) : ∀ (cs row : List Int), moved ts n (moved ts n row cs) cs.reverse = row
  | [], row => rfl
  | c :: cs, row => by
    rw [List.reverse_cons, moved_snoc]
    show step ts n (moved ts n (moved ts n (step ts n row c) cs) cs.reverse) c = row
    rw [moved_back ts n cs, step_step]
theorem moved_back' (ts : List Tie) (n : Int) (cs row : List Int) : moved ts n (moved ts n row cs.reverse) cs = row := by
  have := moved_back ts n cs.reverse row
  rwa [List.reverse_reverse] at this
/-! ### again and again -/
def it {α : Type} (f : α → α) : Nat → α → α
  | 0, x => x
  | k + 1, x => it f k (f x)
section
variable {α : Type} {f g : α → α}
theorem it_succ (f : α → α) : ∀ (k : Nat) (x : α), it f (k + 1) x = f (it f k x)
  | 0, x => rfl
  | k + 1, x => it_succ f k (f x)
theorem it_add (f : α → α) : ∀ (a b : Nat) (x : α), it f (a + b) x = it f b (it f a x)
  | 0, b, x => by rw [Nat.zero_add]; rfl
  | a + 1, b, x => by
    rw [show a + 1 + b = (a + b) + 1 by omega]
    exact it_add f a b (f x)
theorem it_inv (h : ∀ x, g (f x) = x) : ∀ (k : Nat) (x : α), it g k (it f k x) = x
  | 0, x => rfl
  | k + 1, x => by
    rw [it_succ f]
    show it g k (g (f (it f k x))) = x
    rw [h, it_inv h k]
/-- T is the least number of turns that lead back to x -/
structure Per (f : α → α) (x : α) (T : Nat) : Prop where
  pos : 0 < T
  back : it f T x = x
  least : ∀ k, 0 < k → k < T → it f k x ≠ x
theorem Per.of : ∀ {T : Nat} {x : α}, 0 < T → it f T x = x → ∃ S, S ≤ T ∧ Per f x S
  | T, x, h, e => by
    by_cases z : ∃ k, 0 < k ∧ k < T ∧ it f k x = x
    · obtain ⟨k, k0, kT, ek⟩ := z
      obtain ⟨S, hS, p⟩ := Per.of k0 ek
      exact ⟨S, by omega, p⟩
    · exact ⟨T, Nat.le_refl _, h, e, fun k k0 kT ek => z ⟨k, k0, kT, ek⟩⟩
termination_by T => T
theorem it_mul {T : Nat} {x : α} (e : it f T x = x) : ∀ k : Nat, it f (T * k) x = x
  | 0 => rfl
  | k + 1 => by rw [Nat.mul_succ, it_add, it_mul e k, e]
theorem it_mod {T : Nat} {x : α} (e : it f T x = x) (k : Nat) : it f k x = it f (k % T) x := by
  conv => lhs; rw [← Nat.div_add_mod k T]
  rw [it_add, it_mul e]
theorem Per.dvd {x : α} {T : Nat} (p : Per f x T) {k : Nat} : it f k x = x ↔ k % T = 0 := by
  rw [it_mod p.back]
  constructor
  · intro h
    by_cases z : k % T = 0
    · exact z
    · exact absurd h (p.least _ (by omega) (Nat.mod_lt _ p.pos))
  · intro h
    rw [h]; rfl
theorem Per.inj {x : α} {T : Nat} (hi : ∀ a b, f a = f b → a = b) (p : Per f x T) {i j : Nat} (hi' : i < T) (hj : j < T) (h : it f i x = it f j x) : i = j := by
  have key : ∀ a b, a < b → b < T → it f a x = it f b x → False := fun a b hab hb e => by
    have inj : ∀ (k : Nat) (u v : α), it f k u = it f k v → u = v := fun k => by
      induction k with
      | zero => exact fun u v h => h
      | succ k ih => exact fun u v h => hi _ _ (ih _ _ h)
    have e2 : it f a x = it f a (it f (b - a) x) := by
      rw [← it_add, show b - a + a = b by omega]; exact e
    exact p.least (b - a) (by omega) (by omega) (inj a _ _ e2).symm
  rcases Nat.lt_trichotomy i j with h1 | h1 | h1
  · exact (key i j h1 hj h).elim
  · exact h1
  · exact (key j i h1 hi' h.symm).elim
/-- f forwards, g backwards -/
def rz (f g : α → α) (m : Int) (x : α) : α := if 0 ≤ m then it f m.toNat x else it g (-m).toNat x
theorem rz_mod (h : ∀ x, g (f x) = x) {T : Nat} {x : α} (T0 : 0 < T) (e : it f T x = x) (m : Int) : rz f g m x = it f (m % T).toNat x := by
  unfold rz
  have T0' : (0 : Int) < T := by omega
  have b0 := Int.emod_nonneg m (b := T) (by omega)
  have b1 := Int.emod_lt_of_pos m T0'
  split
  · rename_i m0
    rw [it_mod e]
    congr 1
    have : ((m.toNat % T : Nat) : Int) = m % T := by rw [Int.natCast_emod, Int.toNat_of_nonneg m0]
    omega
  · rename_i m0
    -- m = - k, r the rest: k + r is a multiple of T
    generalize hr : (m % T).toNat = r
    have er : m % T = r := by omega
    generalize hk : (-m).toNat = k
    have ek : m = -(k : Int) := by omega
    have d := Int.emod_add_mul_ediv m T
    have key : it f (r + k) x = x := by
      have : ∃ q : Nat, r + k = T * q := by
        refine ⟨(-(m / T)).toNat, ?_⟩
        have q0 : m / T ≤ 0 := by
          by_cases z : m / T ≤ 0
          · exact z
          · have : (T : Int) * 1 ≤ T * (m / T) := Int.mul_le_mul_of_nonneg_left (by omega) (by omega)
            omega
        have e2 : ((T * (-(m / T)).toNat : Nat) : Int) = -(T * (m / T)) := by
          rw [Int.natCast_mul, Int.toNat_of_nonneg (by omega), Int.mul_neg]
        omega
      obtain ⟨q, e3⟩ := this
      rw [e3, it_mul e]
    rw [it_add] at key
    rw [← key, it_inv h k]
    have e4 : it f k (it f r x) = x := key
    rw [e4]
end
/-! ### there is a way back -/
theorem nodup_le' {α : Type} [DecidableEq α] : ∀ {l D : List α}, l.Nodup → (∀ x ∈ l, x ∈ D) → l.length ≤ D.length
  | [], D, _, _ => Nat.zero_le _
  | a :: r, D, h, m => by
    obtain ⟨h1, h2⟩ := List.nodup_cons.mp h
    have ha := m a List.mem_cons_self
    have := nodup_le' (l := r) (D := D.erase a) h2 fun x hx => (List.mem_erase_of_ne (fun z => h1 (by rw [← z]; exact hx))).mpr (m x (List.mem_cons_of_mem _ hx))
    have e := List.length_erase_of_mem ha
    have : 0 < D.length := List.length_pos_of_mem ha
    rw [List.length_cons]
    omega
def words (S : List Int) : Nat → List (List Int)
  | 0 => [[]]
  | k + 1 => S.flatMap fun a => (words S k).map (a :: ·)
theorem words_mem {S : List Int} : ∀ {k : Nat} {l : List Int}, l.length = k → (∀ x ∈ l, x ∈ S) → l ∈ words S k
  | 0, [], _, _ => List.mem_singleton.mpr rfl
  | k + 1, a :: l, h, m => List.mem_flatMap.mpr ⟨a, m a List.mem_cons_self, List.mem_map.mpr ⟨l, words_mem (by simpa using h) (fun x hx => m x (List.mem_cons_of_mem _ hx)), rfl⟩⟩
theorem flat_len {α β : Type} (g : α → List β) (m : Nat) : ∀ l : List α, (∀ a ∈ l, (g a).length = m) → (l.flatMap g).length = l.length * m
  | [], _ => by simp
  | a :: r, h => by
    rw [List.flatMap_cons, List.length_append, h a List.mem_cons_self, flat_len g m r fun b hb => h b (List.mem_cons_of_mem _ hb), List.length_cons, Nat.succ_mul]
    omega
theorem words_len (S : List Int) : ∀ k, (words S k).length = S.length ^ k
  | 0 => rfl
  | k + 1 => by
    show (S.flatMap fun a => (words S k).map (a :: ·)).length = _
    rw [flat_len _ (S.length ^ k) S (fun a _ => by rw [List.length_map, words_len]), Nat.pow_succ, Nat.mul_comm]
/-- rounds lead back, within as many turns as there are lists -/
theorem per_ex {ts : List Tie} {n : Nat} {row cs : List Int} (h : Stand n row) (hc : ∀ c ∈ cs, c ∈ up n) : ∃ T, T ≤ n ^ n ∧ Per (fun r => moved ts n r cs) row T := by
  generalize hf : (fun r => moved ts n r cs) = f
  have inv : ∀ x, moved ts n (f x) cs.reverse = x := fun x => by subst hf; exact moved_back ts n cs x
  have st : ∀ k, Stand n (it f k row) := fun k => by
    induction k with
    | zero => exact h
    | succ k ih => rw [it_succ]; subst hf; exact moved_stand ih hc
  have : ¬ ((List.range (n ^ n + 1)).map fun k => it f k row).Nodup := fun nd => by
    have := nodup_le' (D := words (up n) n) nd fun x hx => by
      obtain ⟨k, _, rfl⟩ := List.mem_map.mp hx
      exact words_mem (st k).length fun y hy => (st k).mem.mp hy
    rw [words_len, up_length, List.length_map, List.length_range] at this
    omega
  have : ∃ i j, i < j ∧ j ≤ n ^ n ∧ it f i row = it f j row := by
    refine Classical.byContradiction fun z => this ?_
    refine List.pairwise_iff_getElem.mpr fun i j hi hj hij e => z ⟨i, j, hij, ?_, ?_⟩
    · rw [List.length_map, List.length_range] at hj; omega
    · simpa using e
  obtain ⟨i, j, hij, hj, e⟩ := this
  have inj : ∀ (k : Nat) (u v : List Int), it f k u = it f k v → u = v := fun k => by
    induction k with
    | zero => exact fun u v h => h
    | succ k ih => exact fun u v h => by have := ih _ _ h; rw [← inv u, this, inv]
  have e2 : it f i row = it f i (it f (j - i) row) := by
    rw [← it_add, show j - i + i = j by omega]; exact e
  obtain ⟨S, hS, p⟩ := Per.of (f := f) (x := row) (T := j - i) (by omega) (inj i _ _ e2).symm
  exact ⟨S, by omega, p⟩
end Ap


/-! P2: lists of whole numbers beside one another. -/
namespace Ap
open PySem L2
theorem eqv_all : ∀ a b : List Int, PyData.eqvAll (a.map PyData.int) (b.map PyData.int) = decide (a = b)
  | [], [] => by simp [PyData.eqvAll]
  | [], _ :: _ => by simp [PyData.eqvAll]
  | _ :: _, [] => by simp [PyData.eqvAll]
  | x :: a, y :: b => by
    rw [List.map_cons, List.map_cons, PyData.eqvAll, eqv_all a b, PyData.eqv]
    rw [show (x == y) = decide (x = y) by rw [Bool.eq_iff_iff, beq_iff_eq, decide_eq_true_eq], ← Bool.decide_and]
    exact decide_eq_decide.mpr (by rw [List.cons.injEq])
theorem eqv_intsD (a b : List Int) : PyData.eqv (intsD a) (intsD b) = decide (a = b) := by
  unfold intsD
  rw [PyData.eqv]
  exact eqv_all a b
theorem lay_ints : ∀ a : List Int, PyData.canLayAll0 (a.map PyData.int) = true
  | [] => by simp [PyData.canLayAll0]
  | x :: a => by rw [List.map_cons, PyData.canLayAll0, lay_ints a, PyData.canLay0]; rfl
theorem depth_ints : ∀ a : List Int, PyData.depthAll (a.map PyData.int) = 0
  | [] => by simp [PyData.depthAll]
  | x :: a => by rw [List.map_cons, PyData.depthAll, depth_ints a, PyData.depth]; rfl
theorem shaped_ints (a : List Int) : SeqAt.shaped (intsD a) = true := by
  unfold SeqAt.shaped intsD
  rw [PyData.canLay0, lay_ints, PyData.depth, depth_ints]
  rfl
section
variable {K : PySem.W.Frag} {H : Hp} {Q : VK} {a b : Addr} {xs ys : List Int}
theorem dp_ints (e : H a = some (.lst (xs.map V.int))) : Dp K H (.ref a) (intsD xs) := (Da.ints (P := fun _ => True) trivial e).dp
theorem g_neI2 (e : H a = some (.lst (xs.map V.int))) (e2 : H b = some (.lst (ys.map V.int))) (h : Q (.bl (!decide (xs = ys))) H) : rNeD K (.ref a) (.ref b) H Q :=
  g_neD (dp_ints e) (dp_ints e2) (shaped_ints _) (shaped_ints _) (by rw [eqv_intsD]; exact h)
theorem g_eqI2 (e : H a = some (.lst (xs.map V.int))) (e2 : H b = some (.lst (ys.map V.int))) (h : Q (.bl (decide (xs = ys))) H) : rEqD K (.ref a) (.ref b) H Q :=
  g_eqD (dp_ints e) (dp_ints e2) (shaped_ints _) (shaped_ints _) (by rw [eqv_intsD]; exact h)
end
theorem map_int_inj {a b : List Int} (h : a.map V.int = b.map V.int) : a = b := by
  induction a generalizing b with
  | nil => cases b with
    | nil => rfl
    | cons _ _ => cases h
  | cons x a ih => cases b with
    | nil => cases h
    | cons y b =>
      simp only [List.map_cons, List.cons.injEq, V.int.injEq] at h
      rw [h.1, ih h.2]
end Ap


/-! K9: what the law's helpers hold fast; texts of nets and rows. -/
namespace Ap
open PySem L2
theorem ne_same {x : Str} : (!decide (x = x)) = false := by rw [decide_eq_true rfl]; rfl
structure LB (tb : List Addr) (a : Addr) (ts : List Tie) (row : List Int) (tp rp : Addr) (H : Hp) : Prop where
  nt : Da (fun b => b ≠ a) H (.ref tp) (netD ts)
  now : H rp = some (.lst (row.map V.int))
  ne : rp ≠ a
  tabs : Tabs tb H
theorem LB.kp {tb : List Addr} {a : Addr} {ts : List Tie} {row : List Int} {tp rp : Addr} {H H' : Hp} (h : LB tb a ts row tp rp H) (k : Kp [] H H') : LB tb a ts row tp rp H' :=
  ⟨h.nt.keep k (fun _ _ => nin0) fun _ h => h, k.lst nin0 h.now, h.ne, k.tabs h.tabs⟩
theorem LB.kpa {tb : List Addr} {a : Addr} {ts : List Tie} {row : List Int} {tp rp : Addr} {H H' : Hp} (h : LB tb a ts row tp rp H) (k : Kp [a] H H') : LB tb a ts row tp rp H' :=
  ⟨h.nt.keep k (fun _ hb => nin1 hb) fun _ h => h, k.lst (nin1 h.ne) h.now, h.ne, k.tabs h.tabs⟩
theorem LB.net {tb : List Addr} {a : Addr} {ts : List Tie} {row : List Int} {tp rp : Addr} {H : Hp} (h : LB tb a ts row tp rp H) : Da (fun _ => True) H (.ref tp) (netD ts) := h.nt.imp fun _ _ => trivial
theorem Shw.grow {x : PyData} {b d b' d' : Nat} (h : Shw x b d) (hb : b ≤ b') (hd : d ≤ d') : Shw x b' d' := ⟨h.ok, Nat.le_trans h.len hb, Nat.le_trans h.dp hd⟩
theorem Shw.row {n : Nat} {row : List Int} (h : ∀ x ∈ row, x ∈ up n) (hn : n ≤ 40) {m : Nat} (hl : row.length ≤ m) : Shw (intsD row) (4 * m + 2) 1 :=
  Shw.ints (fun x hx => by have := up_mem.mp (h x hx); omega) hl
theorem Shw.stand {n : Nat} {row : List Int} (h : Stand n row) (hn : n ≤ 40) : Shw (intsD row) 20000 2 :=
  (Shw.row (fun x hx => h.mem.mp hx) hn (m := 40) (by rw [h.length]; exact hn)).grow (by decide) (by decide)
theorem Shw.three {a b c : PyData} {n d : Nat} (h1 : Shw a n d) (h2 : Shw b n d) (h3 : Shw c n d) : Shw (.list [a, b, c]) ((n + 2) * 3 + 2) (d + 1) :=
  Shw.list (fun x hx => by
    simp at hx
    rcases hx with rfl | rfl | rfl
    · exact h1
    · exact h2
    · exact h3) (Nat.le_refl _)
section
variable {K : PySem.W.Frag} {H : Hp} {p q r t : Addr} {da db dc : PyData}
theorem dp_two (e : H p = some (.lst [.ref q, .ref r])) (a : Dp K H (.ref q) da) (b : Dp K H (.ref r) db) : Dp K H (.ref p) (.list [da, db]) := .lst (SqL.of e) (.cons a (.cons b .nil))
theorem dp_three (e : H p = some (.lst [.ref q, .ref r, .ref t])) (a : Dp K H (.ref q) da) (b : Dp K H (.ref r) db) (c : Dp K H (.ref t) dc) : Dp K H (.ref p) (.list [da, db, dc]) := .lst (SqL.of e) (.cons a (.cons b (.cons c .nil)))
end
end Ap


/-! K6: enumerate from a start, slices with a step, many %= n, keywords the other way round, defaults. -/
namespace Ap
open PySem L2 PySem.Spec PyProof.Rows
/-! ### enumerate(list, k0) -/
def Ites (K : PySem.W.Frag) (k0 : Int) (a : Addr) : It :=
  ⟨fun i H => ∃ (xs : List V) (x : V), SqL K H a xs ∧ xs[i]? = some x, fun i H v H' => ∃ T x, v = .ref T ∧ H T = none ∧ H' = upd H T (.tup [.int (k0 + (i : Nat)), x]) ∧ ∀ xs, SqL K H a xs → xs[i]? = some x, fun i H => ∃ xs : List V, SqL K H a xs ∧ xs.length = i⟩
theorem turn_enumS {P : Program} {w : World} {K : PySem.W.Frag} {elts : List Expr} {kk : Nat} {tpos : Pos} (k0 : Int) (a e it : Addr) :
    Turn P w K (.Tuple elts kk tpos) (Ites K k0 a) [e, it] e (fun i h => (∃ old, IsEnum h e it (k0 + (i : Nat)) old) ∧ h.IsListIter it a i ∧ e ≠ it ∧ a ≠ it ∧ a ≠ e) where
  mem := by simp
  obj := fun i h st b hb => by
    obtain ⟨⟨old, he⟩, ⟨o, ho, hc, hd⟩, _⟩ := st
    have e' : b = e ∨ b = it := by simpa using hb
    rcases e' with z | z
    · rw [z]; exact ⟨_, he, fun v q => nomatch q⟩
    · rw [z]; exact ⟨o, ho, fun v q => by rw [hd] at q; cases q⟩
  keep := fun i h h' st k => let ⟨⟨old, he⟩, hi, hne⟩ := st; ⟨⟨old, k e (by simp) _ he⟩, hi.at fun o q => k it (by simp) o q, hne⟩
  item := by
    intro X hP hw hK hc i pins s σ H E I hf st hg
    subst hP hw hK
    obtain ⟨⟨old, he⟩, hit, hne, hai, hae⟩ := st
    obtain ⟨xs, x, hq, hx⟩ := hg
    obtain ⟨its, rv, p, hz⟩ := I.list hq
    obtain ⟨u, hu, ru⟩ := rv.get hx
    have hel : e < s.heap.objs.size := Heap.lt_size he
    have hil : it < s.heap.objs.size := by obtain ⟨_, q, _⟩ := hit; exact Heap.lt_size q
    have hlt : i < its.toArray.size := by
      rw [List.size_toArray]
      exact (List.getElem?_eq_some_iff.mp hu).1
    have D := Draws.list (prog := X.prog) (w := X.w) (A := X.A.in1) (I.ok.hd hc) it a hai its.toArray
    refine wpAny_pyNext_enum_itemC D he ⟨hit, p.isList⟩ hlt hne (fun z => ?_) fun x' h' tk hP ho hst hT hsz hk => ?_
    · have e' : e = it ∨ e = a := by simpa using z
      exact e'.elim hne (fun z => hae z.symm)
    have hP : its.toArray[i]? = some x' := hP
    have hux : x' = u := by
      rw [List.getElem?_toArray, hu] at hP
      exact (Option.some.inj hP).symm
    subst hux
    refine ⟨_, rfl, wpAny_letOwnedTupleGo_enum (s := { s with heap := h', toks := tk + 1 }) ho fun h'' he' sb => ?_⟩
    have hT2 : h''.get? s.heap.objs.size = some { cls := .type "tuple", data := .seq #[.int (k0 + (i : Nat)) tk, x'] } := (sb.2 _ (Nat.ne_of_gt hel)).trans hT
    have new : ObjOk X.prog X.w (upd H s.heap.objs.size (.tup [.int (k0 + (i : Nat)), x])) h'' s.heap.objs.size (.tup [.int (k0 + (i : Nat)), x]) :=
      ⟨by show 2 ≤ sizeLine; decide, [.int (k0 + (i : Nat)) tk, x'], .cons ⟨_, rfl⟩ (.cons ru .nil), ⟨_, hT2, rfl, _, rfl⟩⟩
    have I1 : Inv X pins σ (upd H s.heap.objs.size (.tup [.int (k0 + (i : Nat)), x])) { s with heap := h'', toks := tk + 1 } :=
      I.turnedNew (ch := [e, it]) (fun b ob hb q => (sb.2 b (fun z => hb (by simp [z]))).trans (hk b ob (fun z => hb (by simp [z])) (fun z => hb (by simp [z])) q)) hf (Nat.le_refl _) new
    refine ⟨.ref s.heap.objs.size, _, I1, rfl, ⟨_, x, rfl, I.hok.fresh (Nat.le_refl _), rfl, fun ys hy => by rw [I.list_inj hy hq]; exact hx⟩, ⟨⟨x', ?_⟩, hst.1.at fun o q => (sb.2 it (Ne.symm hne)).trans q, hne, hai, hae⟩, fun b hb => ?_⟩
    · have e1 : k0 + ((i + 1 : Nat) : Int) = k0 + (i : Nat) + 1 := by omega
      rw [e1]; exact he'
    · have hb' : b < s.heap.objs.size := by
        have e' : b = e ∨ b = it := by simpa using hb
        rcases e' with z | z
        · rw [z]; exact hel
        · rw [z]; exact hil
      rw [upd_ne (Nat.ne_of_lt hb')]
      exact (hf b hb).1
  done := by
    intro X hP hw hK hc i pins s σ H E I hf st hg
    subst hP hw hK
    obtain ⟨⟨old, he⟩, hit, hne, hai, hae⟩ := st
    obtain ⟨xs, hq, hx⟩ := hg
    obtain ⟨its, rv, p, hz⟩ := I.list hq
    obtain ⟨f0, f1, f2, f3, f4, f5⟩ := hf it (by simp)
    have hl := rv.length
    have D := Draws.list (prog := X.prog) (w := X.w) (A := X.A.in1) (I.ok.hd hc) it a hai its.toArray
    have sz : its.toArray.size = i := by rw [List.size_toArray]; omega
    exact wpAny_pyNext_enum_endD D he ⟨by rw [sz]; exact hit, p.isList⟩ fun h' eb => ⟨rfl, I.turned (t' := s.toks) (fun b o hb q => eb b o hb q) f0 f1 f3 f4 f5⟩
  self := fun A i s Q E st h => let ⟨⟨_, he⟩, _⟩ := st; wpAny_pyIter_enum he h
def iEnumS (K : PySem.W.Frag) (ta : TA) : TI := fun σ H R => ta σ H fun vs H1 => ∃ a xs k0, vs = [.ref a, .int k0] ∧ SqL K H1 a xs ∧ -(2 ^ 63) ≤ k0 ∧ k0 < 2 ^ 63 ∧ R (Ites K k0 a) H1
theorem pi_enumS {X : Cx} {e e2 : Expr} {ta : TA} {p pos tpos : Pos} {elts : List Expr} {kk : Nat} (hg : Gl X "enumerate") (hm : X.mg "enumerate" = none) (ha : PA X [e, e2] ta) (hs : starEach (e :: [e2]) X.env = (false, eval e X.env) :: starEach [e2] X.env := by rfl)
    (hpl : (backTo pos (starEach [e2] X.env)).any (·.1) = false := by rfl) :
    PI X (.Tuple elts kk tpos) (.Call (.Name "enumerate" p) [e, e2] [] pos) (iEnumS X.K ta) := by
  refine ⟨fun pins s σ H R I h => ?_⟩
  refine Call_ (ld_blt I hg hm boot_enumerate (PyProof.Rows.callWith_type1 (thn (ha.run pos pins s σ H _ I h) fun us s1 ⟨vs, H1, I1, r1, q1⟩ => ?_) hs hpl))
  obtain ⟨a, xs, k0, ex, hq, b0, b1, q⟩ := q1
  subst ex
  cases r1 with
  | cons r rr =>
    cases rr with
    | cons r2 rr =>
      cases rr
      cases r
      obtain ⟨t, rfl⟩ := r2
      obtain ⟨its, rv, p', hz⟩ := I1.list hq
      have hal : a < s1.heap.objs.size := by obtain ⟨_, z, _⟩ := p'.isList; exact Heap.lt_size z
      refine enum_begins (begins_list a its.toArray) p'.isList b0 b1 fun h' he hit hsz hk => wpAny_pyIter_enum he ?_
      have I2 : Inv X pins σ H1 { s1 with heap := h' } := I1.kept (t' := s1.toks) hk
      refine ⟨s1.heap.objs.size + 1, [s1.heap.objs.size + 1, s1.heap.objs.size], _, _, H1, rfl, I2, turn_enumS k0 a (s1.heap.objs.size + 1) s1.heap.objs.size, ⟨⟨.none, by simpa using he⟩, ⟨_, hit, rfl, rfl⟩, Nat.succ_ne_self _, Nat.ne_of_lt hal, Nat.ne_of_lt (Nat.lt_succ_of_lt hal)⟩, fun b hb => ?_, q⟩
      have e' : b = s1.heap.objs.size + 1 ∨ b = s1.heap.objs.size := by simpa using hb
      have hle : s1.heap.objs.size ≤ b := by
        rcases e' with z | z
        · rw [z]; exact Nat.le_add_right _ _
        · rw [z]; exact Nat.le_refl _
      exact I1.fpOk hle (I1.hok.fresh hle)
section
variable {K : PySem.W.Frag} {a : Addr} {xs : List V} {k0 : Int}
theorem walk_enumS : Walk (Ites K k0 a) xs.length (fun H => SqL K H a xs) (YPair (fun i => some (.int (k0 + (i : Nat)))) (fun i => xs[i]?)) := by
  refine ⟨fun i _ hi q => ⟨xs, xs[i], q, by simp [hi]⟩, fun _ q => ⟨xs, q, rfl⟩, fun i H v H' _ q y => ?_⟩
  obtain ⟨T, x, h1, h2, h3, h4⟩ := y
  exact ⟨T, .int (k0 + (i : Nat)), x, h1, h2, h3, rfl, h4 xs q⟩
end
section
variable {K : PySem.W.Frag} {σ : L2.St} {H : Hp} {ta : TA}
def kIEnS (K : PySem.W.Frag) (R : It → Hp → Prop) : LK := fun vs H1 => ∃ a xs k0, vs = [.ref a, .int k0] ∧ SqL K H1 a xs ∧ -(2 ^ 63) ≤ k0 ∧ k0 < 2 ^ 63 ∧ R (Ites K k0 a) H1
instance i_iEnumS {R : It → Hp → Prop} : St (iEnumS K ta σ H R) (ta σ H (kIEnS K R)) := ⟨id⟩
theorem g_kIEnS {R : It → Hp → Prop} {a : Addr} {xs : List V} {k0 : Int} (e : H a = some (.lst xs)) (b0 : -(2 ^ 63) ≤ k0) (b1 : k0 < 2 ^ 63) (h : R (Ites K k0 a) H) : kIEnS K R [.ref a, .int k0] H := ⟨a, xs, k0, rfl, SqL.of e, b0, b1, h⟩
end
/-! ### a slice with a step -/
/-- every other one -/
def evens {α : Type} : List α → List α
  | [] => []
  | [a] => [a]
  | a :: _ :: r => a :: evens r
theorem evens_map {α β : Type} (f : α → β) : ∀ l : List α, evens (l.map f) = (evens l).map f
  | [] => rfl
  | [_] => rfl
  | _ :: _ :: r => by simp only [List.map_cons, evens, evens_map f r]
theorem evens_perm {α : Type} : ∀ l : List α, (evens l ++ evens (l.drop 1)).Perm l
  | [] => .refl _
  | [a] => .refl _
  | a :: b :: r => by
    have ih := evens_perm r
    show (a :: evens r ++ evens (b :: r)).Perm _
    cases r with
    | nil => exact .refl _
    | cons c r =>
      show (a :: (evens (c :: r) ++ b :: evens r)).Perm _
      refine List.Perm.cons a (List.perm_middle.trans (List.Perm.cons b ?_))
      exact ih
theorem evens_len {α : Type} : ∀ l : List α, (evens l).length ≤ l.length
  | [] => Nat.le_refl _
  | [_] => Nat.le_refl _
  | _ :: _ :: r => by have := evens_len r; simp only [evens, List.length_cons]; omega
end Ap


/-! K7: slices by twos; x %= n; calls with keywords the other way round; defs with a default. -/
namespace Ap
open PySem L2 PySem.Spec PyProof.Rows
theorem evens_pick {α : Type} : ∀ l : List α, (List.range ((l.length + 1) / 2)).filterMap (fun j => l[2 * j]?) = evens l
  | [] => by simp [evens]
  | [a] => by simp [evens, List.range_succ]
  | a :: b :: r => by
    have e : ((a :: b :: r).length + 1) / 2 = (r.length + 1) / 2 + 1 := by simp only [List.length_cons]; omega
    rw [e, List.range_succ_eq_map, List.filterMap_cons, List.filterMap_map]
    show a :: _ = a :: _
    congr 1
    rw [← evens_pick r]
    refine congrArg (fun f => List.filterMap f _) (funext fun j => ?_)
    show (a :: b :: r)[2 * (j + 1)]? = _
    rw [show 2 * (j + 1) = 2 * j + 2 by omega]
    rfl
def loN (l : Option Int) (k : Nat) : Prop := (l = none ∧ k = 0) ∨ l = some (k : Int)
theorem pick2 {items : Array Value} {l : Option Int} {k : Nat} (h : loN l k) (hk : k ≤ items.size) : slicePick items l none (some 2) = (evens (items.toList.drop k)).toArray := by
  have b : sliceBounds l none (some 2) items.size = ((k : Int), (items.size : Int), 2) := by
    rcases h with ⟨rfl, rfl⟩ | rfl
    · rfl
    · unfold sliceBounds
      have h2 : (2 : Int) > 0 := by decide
      simp only [Option.getD_some, h2, if_true]
      rw [if_neg (by omega)]
      congr 1
      omega
  unfold slicePick
  rw [b]
  show ((sliceRange (k : Int) items.size 2).filterMap (items[·]?)).toArray = _
  congr 1
  rw [← evens_pick]
  unfold sliceRange
  have h2 : (2 : Int) > 0 := by decide
  simp only [h2, if_true]
  rw [List.filterMap_map, List.length_drop, Array.length_toList]
  have e : (if (k : Int) < items.size then ((items.size : Int) - k + 2 - 1) / 2 else 0).toNat = (items.size - k + 1) / 2 := by
    split <;> omega
  rw [e]
  refine congrArg (fun f => List.filterMap f _) (funext fun j => ?_)
  show items[((k : Int) + 2 * (j : Int)).toNat]? = _
  rw [List.getElem?_drop, Array.getElem?_toList, show ((k : Int) + 2 * (j : Int)).toNat = k + 2 * j by omega]
theorem vals_evens : ∀ {vs : List V} {us : List Value}, Vals vs us → Vals (evens vs) (evens us)
  | _, _, .nil => .nil
  | _, _, .cons r .nil => .cons r .nil
  | _, _, .cons r (.cons _ t) => .cons r (vals_evens t)
theorem vals_drop1 {vs : List V} {us : List Value} (h : Vals vs us) (k : Nat) : Vals (vs.drop k) (us.drop k) := h.drop k
/-- xs[lo::2] -/
def tStep2 (K : PySem.W.Frag) (te : TE) (tl : TO) : TE := fun σ H Q => te σ H fun x H1 => tl σ H1 fun l H2 => ∃ a xs k, x = .ref a ∧ loN l k ∧ SqL K H2 a xs ∧ k ≤ xs.length ∧ ∀ p, H2 p = none → Q (.ref p) (upd H2 p (.lst (evens (xs.drop k))))
theorem pe_step2 {X : Cx} {e : Expr} {te : TE} {tl : TO} {lo : Option Expr} {k : Nat} {p1 p3 pos : Pos} (he : PE X e te) (hl : PO X lo tl)
    (hops : ∀ (x y : Value), ∃ ops, subscripted (.Slice lo none (some (.Constant (.int 2) k p1)) p3) false x y = operate ops (getItem x y) := by exact fun _ _ => ⟨_, rfl⟩) (hst0 : ∀ (x : Value) (s : Value), letTemporaryGo e x s = pure () := by intro _ _; rfl) : PE X (.Subscript e (.Slice lo none (some (.Constant (.int 2) k p1)) p3) pos) (tStep2 X.K te tl) := by
  refine ⟨fun pins s σ H Q I h => ?_⟩
  refine Subscript_ (thn (he.run pins s σ H _ I h) fun v s1 ⟨x, H1, I1, r1, q1⟩ => ?_)
  have hst : PO X (some (.Constant (.int 2) k p1)) (tPart (tC (.int 2))) := po_some pe_int
  refine wpAny_Slice (thn (hl.run pins s1 σ H1 _ I1 q1) fun vl s2 ⟨l, H2, I2, pl, q2⟩ => ?_)
  obtain ⟨a, xs, kk, ex, hk, hx, hkl, q⟩ := q2
  subst ex
  cases r1
  refine thn (po_none.run pins s2 σ H2 (fun o H3 => o = none ∧ H3 = H2) I2 ⟨rfl, rfl⟩) fun vu s3 ⟨u, H3, I3, pu, eu, e3⟩ => ?_
  subst eu e3
  refine thn (hst.run pins s3 σ H3 (fun o H4 => o = some 2 ∧ H4 = H3) I3 ⟨2, rfl, rfl, rfl⟩) fun vs s4 ⟨o, H4, I4, ps, eo, e4⟩ => ?_
  subst eo e4
  have I5 : Inv X pins σ H4 { s4 with heap := s4.heap.push { cls := .type "slice", data := .fields #[vl, vu, vs] } } := I4.kept (t' := s4.toks) fun b ob q => Heap.get?_push_of_some _ q
  obtain ⟨its, r, ht, hz⟩ := I5.list hx
  have hlen := r.length
  show wpAny (model X.prog X.w) X.A (subscriptTail e (.Slice lo none (some (.Constant (.int 2) k p1)) p3) (.ref a) (.ref s4.heap.objs.size)) (EP X pins σ Q) X.xe { s4 with heap := s4.heap.push { cls := .type "slice", data := .fields #[vl, vu, vs] } }
  obtain ⟨ops, hops⟩ := hops (.ref a) (.ref s4.heap.objs.size)
  refine tail_any (ops := ops) ht.isList.typeIs (PySem.slot_list_getitem.lookup) ?_ hops
  refine wpAny_getItem_list_slice ht.isList (Heap.IsSliceOf.new _ vl vu vs) pl pu ps (by decide) ?_ (by rw [List.size_toArray]; omega)
  rw [pick2 hk (by rw [List.size_toArray]; omega)]
  have le : (evens (xs.drop kk)).length ≤ xs.length := Nat.le_trans (evens_len _) (by rw [List.length_drop]; omega)
  refine ⟨.ref _, _, I5.laid (t' := s4.toks) (o := .lst (evens (xs.drop kk))) (fun b ob q => Heap.get?_push_of_some _ q) (Nat.le_refl _) ?_, rfl, q _ (I5.hok.fresh (Nat.le_refl _))⟩
  exact ⟨by omega, _, 0, vals_evens (r.drop kk), Heap.get?_push_size _ rfl⟩
section
variable {K : PySem.W.Frag} {σ : L2.St} {H : Hp} {te : TE} {tl : TO} {Q : VK} {x : V} {l : Option Int}
def kS21 (K : PySem.W.Frag) (tl : TO) (σ : L2.St) (Q : VK) : VK := fun x H1 => tl σ H1 fun l H2 => ∃ a xs k, x = .ref a ∧ loN l k ∧ SqL K H2 a xs ∧ k ≤ xs.length ∧ ∀ p, H2 p = none → Q (.ref p) (upd H2 p (.lst (evens (xs.drop k))))
def kS22 (K : PySem.W.Frag) (x : V) (Q : VK) : OK := fun l H2 => ∃ a xs k, x = .ref a ∧ loN l k ∧ SqL K H2 a xs ∧ k ≤ xs.length ∧ ∀ p, H2 p = none → Q (.ref p) (upd H2 p (.lst (evens (xs.drop k))))
instance i_step2 : St (tStep2 K te tl σ H Q) (te σ H (kS21 K tl σ Q)) := ⟨id⟩
instance i_kS21 : St (kS21 K tl σ Q x H) (tl σ H (kS22 K x Q)) := ⟨id⟩
theorem g_kS22 {a : Addr} {xs : List V} (k : Nat) (hk : loN l k) (e : H a = some (.lst xs)) (hl : k ≤ xs.length) (h : ∀ p, H p = none → Q (.ref p) (upd H p (.lst (evens (xs.drop k))))) : kS22 K (.ref a) Q l H := ⟨a, xs, k, rfl, hk, SqL.of e, hl, h⟩
end
/-! ### x %= n -/
def ipM : TIp := fun x y H Q => ∃ i j, x = .int i ∧ y = .int j ∧ 0 < j ∧ Q (.int (i % j)) H
theorem ip_mod {X : Cx} : PIp X .Mod ipM := by
  intro pins s σ H x y v u Q I r1 r2 h
  obtain ⟨i, j, e1, e2, j0, q⟩ := h
  subst e1; subst e2
  obtain ⟨t, rfl⟩ := r1
  obtain ⟨t', rfl⟩ := r2
  refine PyProof.Rows.imod_int (by omega) ⟨.int _, H, I.tok _, ⟨_, rfl⟩, ?_⟩
  rw [Int.fmod_eq_emod_of_nonneg _ (by omega)]
  exact q
/-! ### keywords, the parameters the other way round -/
def rvA {α : Type} : List α → List α → List α := fun us ws => match us with
  | [] => ws.reverse
  | _ => []
theorem vals_rev {vs : List V} {us : List Value} (h : Vals vs us) : Vals vs.reverse us.reverse := h.reverse
theorem kb_rev {K : PySem.W.Frag} {x qual : Str} {st : Stmt} {f : Addr} {fd : FuncData} {ps : List Str} (F : Fun K x qual st f fd) (h0 : 0 < ps.length)
    (h : ∀ (kV doc pm : Value) (an : Option Addr) (cdv ct : Value) (ws : List Value), ws.length = ps.length → bindArgs (PySem.W.fnOf x qual (defArgs st) (defBody st) (defScope st) .none kV doc pm an cdv ct) ⟨[], ps.reverse.zip ws⟩ = pure (ps.zip ws.reverse)) : KBinds K fd ps ps.reverse rvA rvA := by
  obtain ⟨oc, od, kV, doc, pm, an, cdv, ct, osl, rfl, lk, hcd⟩ := F.ex
  refine ⟨fun s us ws _ hl => ?_, fun {vs us zs ws} r1 r2 => ?_⟩
  · match us, hl with
    | [], hl =>
      have hl : ws.length = ps.length := by simpa [rvA] using hl
      exact .of_eq (h _ _ _ _ _ _ ws hl)
    | _ :: _, hl => exact absurd hl (by simp [rvA]; omega)
  · cases r1 with
    | cons _ _ => exact .nil
    | nil => exact r2.reverse
/-- the same of a def with defaults: all is told -/
theorem kb_revD {K : PySem.W.Frag} {x qual : Str} {st : Stmt} {f : Addr} {fd : FuncData} {ps : List Str} {dvs : List V} (F : FunD K x qual (defArgs st) (defBody st) (defScope st) dvs [] f fd) (hd : dvs ≠ []) (h0 : 0 < ps.length)
    (h : ∀ (T : Addr) (kV doc pm : Value) (an : Option Addr) (cdv ct : Value) (ws its : List Value), ws.length = ps.length → its.length = dvs.length →
      ∃ k, bindArgs (PySem.W.fnOf x qual (defArgs st) (defBody st) (defScope st) (.ref T) kV doc pm an cdv ct) ⟨[], ps.reverse.zip ws⟩ = seqItems? (.ref T) >>= k ∧ k (some its.toArray) = pure (ps.zip ws.reverse)) : KBinds K fd ps ps.reverse rvA rvA := by
  obtain ⟨oc, od, dV, kV, doc, pm, an, cdv, ct, osl, rfl, lk, hcd, hD, hK⟩ := F.ex
  rcases hD with ⟨e, _⟩ | ⟨_, T, o, its, m, rfl, lT, oT, rT⟩
  · exact absurd e hd
  refine ⟨fun s us ws X hl => ?_, fun {vs us zs ws} r1 r2 => ?_⟩
  · match us, hl with
    | [], hl =>
      have hl : ws.length = ps.length := by simpa [rvA] using hl
      obtain ⟨k, e1, e2⟩ := h T kV doc pm an cdv ct ws its hl rT.length.symm
      refine BindsTo.of_looks fun M => ?_
      rw [e1]
      exact looks_items X lT oT (.of_pure e2)
    | _ :: _, hl => exact absurd hl (by simp [rvA]; omega)
  · cases r1 with
    | cons _ _ => exact .nil
    | nil => exact r2.reverse
/-! ### a def with defaults, by its body -/
section
variable {P : Program} {w : World} {K : PySem.W.Frag} {mg : Str → Option Value} {base : Heap} {CX : CXT} {k : Nat} {f : Addr} {fd : FuncData} {ps : List Str} {sp : Sp}
theorem fnD_of0 {x qual : Str} {st : Stmt} {N : List Str} {dvs : List V} (F : FunD K x qual (defArgs st) (defBody st) (defScope st) dvs [] f fd) (S : FnScope N ps (defScope st)) (len : ∀ vs H Q E, sp vs H Q E → vs.length = ps.length)
    (body : ∀ (cdv : Value) (B : Around) (outs : List Env) (s : Shared) (H : Hp) (vs : List V) (Q : VK) (E : XK), fd.code = cdv → Room k (B.deeper (envOfC qual (defScope st) s.heap.objs.size f cdv)) → B.guards = some [] → sp vs H Q E →
      ∃ t, PSs (cxOf CX0 P w K mg base N qual (defScope st) f cdv B outs s H E).nox (defBody st) t ∧ t ⟨fun _ H' => Q .non H', Q, fun _ _ => False, fun _ _ => False⟩ (start N vs) H) :
    FnG P w K mg base CX0 (k + 1) f fd ps sp := by
  obtain ⟨oc, od, dV, kV, doc, pm, an, cdv, ct, osl, rfl, lk, hcd, _, _⟩ := F.ex
  refine ⟨len, fun B outs s H args us vs Q E hr hg e0 hb rv hsp => ?_⟩
  have ln := len vs H Q E hsp
  have kin : K.In s.heap := e0.mod.kin.keeps fun b o e => (e0.bs b o e).1
  refine codeAny_call_function hr.depth (kin f _ lk) rfl S.co S.gen rfl (PySem.W.codeRec_of kin hcd) (hb _ _ _ _ ?_)
  refine wpAny_newFunctionEnv_cells S.kind (fun y hy => ?_) fun env he s1 inc => ?_
  · rcases S.par y.1 (List.of_mem_zip (show (y.1, y.2) ∈ ps.zip us from hy)).1 with q | q
    · exact .inl q
    · exact .inr ⟨q, PySem.W.cellsFrom_some _ _ _ (.inl q)⟩
  · subst he
    refine ⟨(e0.mod.nolimit.keeps fun b o e => (e0.bs b o e).1).keeps inc.toInCall.keep, codeAny_func ?_⟩
    obtain ⟨t, ht, hq⟩ := body cdv B outs s H vs Q E rfl (hr.deeper _) hg hsp
    have ht := ht.nox
    have I0 := inv_start (CX := CX0) (E := E) (K := K) (cd := cdv) (f := f) S hr.hd e0 ln rv inc
    refine wpAny_mono (ht.run [] s1 (start N vs) H _ I0 hq) (fun fl s2 hs => ?_) fun _ _ hs => hs
    cases fl with
    | ret u =>
      obtain ⟨v, σ', H', J, r', q⟩ := hs
      exact ⟨v, H', J.os, J.bare, J.base, J.hok, r', q⟩
    | next =>
      obtain ⟨σ', H', J, q⟩ := hs
      exact ⟨.non, H', J.os, J.bare, J.base, J.hok, rfl, q⟩
    | brk =>
      obtain ⟨_, _, _, z⟩ := hs
      exact z.elim
    | cont =>
      obtain ⟨_, _, _, z⟩ := hs
      exact z.elim
theorem fnDK_of0 {x qual : Str} {st : Stmt} {N : List Str} {dvs : List V} (F : FunD K x qual (defArgs st) (defBody st) (defScope st) dvs [] f fd) (S : FnScope N ps (defScope st)) (len : ∀ vs H Q E, sp vs H Q E → vs.length = ps.length)
    (body : ∀ (cdv : Value) (B : Around) (outs : List Env) (s : Shared) (H : Hp) (vs : List V) (Q : VK) (E : XK), fd.code = cdv → Room k (B.deeper (envOfC qual (defScope st) s.heap.objs.size f cdv)) → sp vs H Q E →
      ∃ t, PSs (cxOf CX0 P w K mg base N qual (defScope st) f cdv B outs s H E).nox (defBody st) t ∧ t ⟨fun _ H' => Q .non H', Q, fun _ _ => False, fun _ _ => False⟩ (start N vs) H) :
    FnOk P w K mg base CX0 (k + 1) f fd ps sp := by
  obtain ⟨oc, od, dV, kV, doc, pm, an, cdv, ct, osl, rfl, lk, hcd, _, _⟩ := F.ex
  refine ⟨len, fun B outs s H args us vs Q E hr e0 hb rv hsp => ?_⟩
  have ln := len vs H Q E hsp
  have kin : K.In s.heap := e0.mod.kin.keeps fun b o e => (e0.bs b o e).1
  refine codeAny_call_function hr.depth (kin f _ lk) rfl S.co S.gen rfl (PySem.W.codeRec_of kin hcd) (hb _ _ _ _ ?_)
  refine wpAny_newFunctionEnv_cells S.kind (fun y hy => ?_) fun env he s1 inc => ?_
  · rcases S.par y.1 (List.of_mem_zip (show (y.1, y.2) ∈ ps.zip us from hy)).1 with q | q
    · exact .inl q
    · exact .inr ⟨q, PySem.W.cellsFrom_some _ _ _ (.inl q)⟩
  · subst he
    refine ⟨(e0.mod.nolimit.keeps fun b o e => (e0.bs b o e).1).keeps inc.toInCall.keep, codeAny_func ?_⟩
    obtain ⟨t, ht, hq⟩ := body cdv B outs s H vs Q E rfl (hr.deeper _) hsp
    have ht := ht.nox
    have I0 := inv_start (CX := CX0) (E := E) (K := K) (cd := cdv) (f := f) S hr.hd e0 ln rv inc
    refine wpAny_mono (ht.run [] s1 (start N vs) H _ I0 hq) (fun fl s2 hs => ?_) fun _ _ hs => hs
    cases fl with
    | ret u =>
      obtain ⟨v, σ', H', J, r', q⟩ := hs
      exact ⟨v, H', J.os, J.bare, J.base, J.hok, r', q⟩
    | next =>
      obtain ⟨σ', H', J, q⟩ := hs
      exact ⟨.non, H', J.os, J.bare, J.base, J.hok, rfl, q⟩
    | brk =>
      obtain ⟨_, _, _, z⟩ := hs
      exact z.elim
    | cont =>
      obtain ⟨_, _, _, z⟩ := hs
      exact z.elim
end
end Ap


/-! K8: name = {k: v for ..}. -/
namespace Ap
open PySem L2 PySem.Spec PyProof.Rows
section
variable {X : Cx}
theorem ps_setDc {i : Nat} {y : Str} {py : Pos} {kx vx tg iter : Expr} {ifs : List Expr} {scope : Scope} {own : List (Str × Nat)} {pos spos : Pos} {wi : TI} {g : TG} {tt : TT} {tk tv : TE} (hc : X.calm = true) (hN : X.N.Nodup) (hy : X.N[i]? = some y)
    (hyl : X.env.scope.names.lookup y = some .local) (hsw : swapsWith (.DictComp kx vx [⟨tg, iter, ifs, 0⟩] scope pos) (some (.Name y py)) spos.line X.env = pure true) (hi : PI X tg iter wi) (ok : BlkOk X.N X.env.scope scope own)
    (hg : ∀ (s : Shared) (H : Hp) (C : Addr) (cl : List (Str × Addr)) (fp : List Addr), PG (X.blk s H scope (compEnvC scope cl C X.env) fp) tg g)
    (ht : ∀ (s : Shared) (H : Hp) (C : Addr) (cl : List (Str × Addr)) (fp : List Addr), PTs (X.blk s H scope (compEnvC scope cl C X.env) fp) ifs tt)
    (hk : ∀ (s : Shared) (H : Hp) (C : Addr) (cl : List (Str × Addr)) (fp : List Addr), PE (X.blk s H scope (compEnvC scope cl C X.env) fp) kx tk)
    (he : ∀ (s : Shared) (H : Hp) (C : Addr) (cl : List (Str × Addr)) (fp : List Addr), PE (X.blk s H scope (compEnvC scope cl C X.env) fp) vx tv) (hs : ∀ x, foldedSetIterable iter X.env x = pure x := by intro _; rfl) :
    PS X (.Assign [.Name y py] (.DictComp kx vx [⟨tg, iter, ifs, 0⟩] scope pos) spos) (tAsg (tDc wi g tt tk tv (own.map (·.2))) (gName i)) := by
  refine ⟨fun pins s σ H D I h => ?_⟩
  rw [exec_Assign_Name_used _ _ _ _ hsw]
  refine wpAny_bind (wpAny_standAt (wpAny_bind ?_))
  show wpAny _ X.A (do let _ ← comprehension (.DictComp kx vx [⟨tg, iter, ifs, 0⟩] scope pos) scope X.env (firstIterPos [⟨tg, iter, ifs, 0⟩] pos) newDict false (eval iter X.env) (some (assign (.Name y py) X.env))) _ _ s
  have h : tDc wi g tt tk tv (own.map (·.2)) σ H (fun x H1 => gName i x σ H1 D.nx) := h
  refine wpAny_bind (thn (dc_core (Qf := fun _ s' => SP X pins D .next s') hc hN I hi ok hg ht hk he hs h fun L C s' m H' I' q hn f => ?_) fun _ s' hq => wpAny_pure (wpAny_pure hq))
  show wpAny _ _ (assign (.Name y py) X.env (.ref L)) _ _ _
  refine wpAny_assign_Name (store_ok2 (v := V.ref L) I' hN hy (.inl hyl) rfl (fun s2 I2 ⟨a, sb, ha⟩ => ?_) (.inr hyl))
  obtain ⟨f0, f1, f2, f3, f4, f5⟩ := f
  have haC : C ≠ a := by
    rcases ha with z | z
    · rw [z]; exact f1
    · exact fun e => f4 y a z e.symm
  refine ⟨m, hn.sameBut sb haC, fun h3 sb3 => ?_⟩
  exact ⟨_, H', I2.turned (t' := s2.toks) (fun b o hb e => (sb3.2 b hb).trans e) f0 f1 f3 f4 f5, q⟩
theorem sw_trueD {kx vx : Expr} {gs : List Comprehension} {scope : Scope} {pos py : Pos} {y : Str} {l : Nat} {env : Env} (hk : env.scope.kind = .function) (hy : env.scope.names.lookup y = some .local) (hl : (py.line == pos.line) = true)
    (ha : (scope.names.any fun (n, k) => n == y && (k == .local || k == .cell)) = false) : swapsWith (.DictComp kx vx gs scope pos) (some (.Name y py)) l env = pure true := by
  have ky : env.kindOf y = some .local := hy
  have hb : env.blockKind = .function := by unfold Env.blockKind; rw [hk]; rfl
  unfold swapsWith
  simp only [hb, ky, ha, Expr.pos, hl]
  rfl
end
end Ap


/-! K11: what a try has caught and kept by a name: from then on H knows it. -/
namespace Ap
open PySem L2 PySem.Spec PyProof.Rows
/-- at a: an error of the class cls, its own dict at d -/
def exA (a : Addr) (cls : Value) (d : Option Addr) : HO := .ext fun h => ∃ o vs, h.get? a = some o ∧ o.cls = cls ∧ o.dict = d ∧ o.data = .fields vs
theorem exA_own {a x : Addr} {cls : Value} {d : Option Addr} : exA a cls d ≠ .own x := fun z => by unfold exA at z; cases z
theorem exA_tup {a : Addr} {cls : Value} {d : Option Addr} {xs : List V} : exA a cls d ≠ .tup xs := fun z => by unfold exA at z; cases z
section
variable {X : Cx} {pins : List (Addr × Obj)} {σ : L2.St} {H : Hp} {s : Shared}
theorem adopt {a : Addr} {o : Obj} {vs : Array Value} {cls : Value} {d : Option Addr} (I : Inv X pins σ H s) (na : H a = none) (ha : s.heap.get? a = some o) (hz : Zc cls d o) (hd : o.data = .fields vs) (nL : a ≠ X.env.locals)
    (np : ∀ p ∈ X.pn ++ pins, p.1 ≠ a) (young : ∀ u, X.s_0.heap.get? a = some u → a ∈ X.ex) : Inv X pins σ (upd H a (exA a cls d)) s := by
  have same : ∀ b u, H b = some u → upd H a (exA a cls d) b = some u := fun b u e => by rw [upd_ne (ne_of_none e na)]; exact e
  refine ⟨I.ok, I.os, I.bare, ⟨I.base.keep, I.base.slot, fun b u e n hx => ?_, I.base.there, fun b xs e => ?_, fun b u x e => ?_, fun b ps e => ?_⟩, I.loc, I.cell, ?_, fun x c e => ?_, fun p hp => ?_, fun b u e => ?_, I.len⟩
  · rw [upd_ne (fun z => by subst z; exact hx (young u e))]
    exact I.base.free b u e n hx
  · exact same _ _ (I.base.tups b xs e)
  · exact same _ _ (I.base.frzs b u x e)
  · obtain ⟨m, q⟩ := I.base.tbls b ps e
    exact ⟨m, same _ _ q⟩
  · rw [upd_ne nL.symm]; exact I.free
  · have : c ≠ a := fun z => by
      obtain ⟨v, ob, e1, e2⟩ := I.cell x c e
      rw [z, ha] at e1
      cases e1
      first
        | (rw [hd] at e2; cases e2)
        | (obtain ⟨_, e2⟩ := e2; rw [hd] at e2; cases e2)
        | (have := e2.2; rw [hd] at this; cases this)
        | (have := e2.1; rw [hd] at this; cases this)
    rw [upd_ne this]
    exact I.freeC x c e
  · obtain ⟨h1, h2, h3⟩ := I.pin p hp
    exact ⟨h1, by rw [upd_ne (np p hp)]; exact h2, h3⟩
  · by_cases z : b = a
    · subst z
      rw [upd_same] at e
      cases e
      exact ⟨⟨o, vs, ha, hz.1, hz.2, hd⟩, ⟨o, ha⟩, fun h1 h2 ⟨o', vs', e1, e2⟩ st => ⟨o', vs', st _ e1, e2⟩⟩
    · rw [upd_ne z] at e
      exact (I.hok b u e).stay (fun _ _ _ q => q) (fun _ q => same _ _ q) fun _ _ q => same _ _ q
end
/-- a clause's test: over the caught thing's class it answers f -/
structure CTest (X : Cx) (T : Expr) (f : Value → Option Bool) : Prop where
  run : ∀ (a : Addr) (oe : Obj) (pn pins : List (Addr × Obj)) (σ : L2.St) (H : Hp) (s : Shared) (b : Bool) (E : Value → Shared → Prop) (Q : Bool → Shared → Prop), Inv (X.suite a ((a, oe) :: pn)) pins σ H s → f oe.cls = some b →
    (∀ h' t', (∀ q o, s.heap.get? q = some o → h'.get? q = some o) → Q b { s with heap := h', toks := t' }) →
    wpAny (model X.prog X.w) (X.A.mark (some (.ref a))) (eval T X.env) (fun c s1 => wpAny (model X.prog X.w) (X.A.mark (some (.ref a))) (excMatches (.ref a) c) Q E s1) E s
theorem names_in {X : Cx} {a : Addr} {oe : Obj} {pn pins : List (Addr × Obj)} {σ : L2.St} {H : Hp} {s : Shared} {x : Str} {c : Value} {np : Pos} {Q : Value → Shared → Prop} {E : Value → Shared → Prop} (hc : Names X x c) (S : Inv (X.suite a ((a, oe) :: pn)) pins σ H s) (q : Q c s) :
    wpAny (model X.prog X.w) (X.A.mark (some (.ref a))) (eval (.Name x np) X.env) Q E s := by
  obtain ⟨hg, hdbg, hm | ⟨hm, hv, hnn⟩⟩ := hc
  · exact ld_glob (X := X.suite a ((a, oe) :: pn)) S hg hm q hdbg
  · exact ld_blt (X := X.suite a ((a, oe) :: pn)) S hg hm hv q hnn hdbg
theorem ct_name {X : Cx} {x : Str} {c : Value} {np : Pos} (hc : Names X x c) : CTest X (.Name x np) (fun cls => PySem.W.exmOne X.K cls c) := by
  refine ⟨fun a oe pn pins σ H s b E Q S hf q => names_in hc S ?_⟩
  have ha := (S.pin (a, oe) (List.mem_append_left _ List.mem_cons_self)).1
  have LT : PySem.W.Looks (model X.prog X.w) s.heap (typeOf (.ref a)) oe.cls := fun A Q E s' k z => wpAny_typeOf_ref (k _ _ ha) z
  exact (PySem.W.exm_one (M := model X.prog X.w) S.kIn LT hf).here (q s.heap s.toks fun _ _ z => z)
theorem ct_tup3 {X : Cx} {x1 x2 x3 : Str} {c1 c2 c3 : Value} {p1 p2 p3 tpos : Pos} {kk : Nat} (n1 : Names X x1 c1) (n2 : Names X x2 c2) (n3 : Names X x3 c3) :
    CTest X (.Tuple [.Name x1 p1, .Name x2 p2, .Name x3 p3] kk tpos) (fun cls => PySem.W.exmAny X.K cls [c1, c2, c3]) := by
  refine ⟨fun a oe pn pins σ H s b E Q S hf q => ?_⟩
  have ha := (S.pin (a, oe) (List.mem_append_left _ List.mem_cons_self)).1
  have LT : PySem.W.Looks (model X.prog X.w) s.heap (typeOf (.ref a)) oe.cls := fun A Q E s' k z => wpAny_typeOf_ref (k _ _ ha) z
  refine wpAny_Tuple (wpAny_items_cons (names_in n1 S (wpAny_items_cons (names_in n2 S (wpAny_items_cons (names_in n3 S (wpAny_items_nil ⟨by size_fits, ?_⟩)))))))
  have more : ∀ b o, s.heap.get? b = some o → (s.heap.push { cls := .type "tuple", data := .seq [c1, c2, c3].toArray }).get? b = some o := fun _ _ z => Heap.get?_push_of_some _ z
  exact (PySem.W.exm_tup3 (S.kIn.keeps more) (LT.keeps more) (Heap.get?_push_size s.heap rfl) hf).here (q _ s.toks more)
theorem ct_tup2 {X : Cx} {x1 x2 : Str} {c1 c2 : Value} {p1 p2 tpos : Pos} {kk : Nat} (n1 : Names X x1 c1) (n2 : Names X x2 c2) :
    CTest X (.Tuple [.Name x1 p1, .Name x2 p2] kk tpos) (fun cls => PySem.W.exmAny X.K cls [c1, c2]) := by
  refine ⟨fun a oe pn pins σ H s b E Q S hf q => ?_⟩
  have ha := (S.pin (a, oe) (List.mem_append_left _ List.mem_cons_self)).1
  have LT : PySem.W.Looks (model X.prog X.w) s.heap (typeOf (.ref a)) oe.cls := fun A Q E s' k z => wpAny_typeOf_ref (k _ _ ha) z
  refine wpAny_Tuple (wpAny_items_cons (names_in n1 S (wpAny_items_cons (names_in n2 S (wpAny_items_nil ⟨by size_fits, ?_⟩)))))
  have more : ∀ b o, s.heap.get? b = some o → (s.heap.push { cls := .type "tuple", data := .seq [c1, c2].toArray }).get? b = some o := fun _ _ z => Heap.get?_push_of_some _ z
  exact (PySem.W.exm_tup2 (S.kIn.keeps more) (LT.keeps more) (Heap.get?_push_size s.heap rfl) hf).here (q _ s.toks more)
/-- what the clauses wish of an error of the body; what is caught is known behind them -/
def wA (i : Nat) (D : Ends) : List ((Value → Option Bool) × (Addr → Value → Option Addr → TS)) → WX
  | [] => fun _ _ _ _ => False
  | (f, ts) :: r => fun cls d σ H => ∃ b, f cls = some b ∧
      (b = true → ∀ a, H a = none → ts a cls d ⟨fun σ' H' => D.nx (σ'.set i none) (upd H' a (exA a cls d)), fun _ _ => False, fun _ _ => False, fun _ _ => False⟩ (σ.set i (some (.ref a))) H) ∧ (b = false → wA i D r cls d σ H)
inductive HdA (X : Cx) (n : Str) : List ExceptHandler → List ((Value → Option Bool) × (Addr → Value → Option Addr → TS)) → Prop
  | nil : HdA X n [] []
  | cons {T : Expr} {f : Value → Option Bool} {ts : Addr → Value → Option Addr → TS} {b0 : Stmt} {suite : List Stmt} {pos' : Pos} {hds : List ExceptHandler} {l : List ((Value → Option Bool) × (Addr → Value → Option Addr → TS))} (ct : CTest X T f)
      (hsu : ∀ (a : Addr) (oe : Obj) (cls : Value) (d : Option Addr) (pn : List (Addr × Obj)), Zc cls d oe → (∃ vs, oe.data = .fields vs) → PSs (X.suite a ((a, oe) :: pn)) (b0 :: suite) (ts a cls d)) (r : HdA X n hds l) :
      HdA X n (.ExceptHandler (some T) (some n) (b0 :: suite) pos' :: hds) ((f, ts) :: l)
theorem flies {B h h' : Heap} {l : List Env} {a : Addr} {Z : Obj → Prop} (x : HandSPX.FlyingZ B l a Z h) (k : ∀ b o, h.get? b = some o → h'.get? b = some o) : HandSPX.FlyingZ B l a Z h' := by
  obtain ⟨x1, x2, x3, oe, vs, T, oT, ts, y1, y2, y3, y4, y5, y6, y7, y8⟩ := x
  exact ⟨fun b o e => k b o (x1 b o e), x2, x3.of_keeps fun b o e _ => ⟨o, k b o e, rfl⟩, oe, vs, T, oT, ts, k _ _ y1, y2, y3, y4, y5, y6, k _ _ y7, y8⟩
section
variable {X : Cx} {n : Str} {i : Nat} {body : List Stmt} {hd0 : ExceptHandler} {hds : List ExceptHandler} {l : List ((Value → Option Bool) × (Addr → Value → Option Addr → TS))} {pos : Pos} {tb : WX → TS}
/-- try: .. except T as n: .. except T as n: .., where every error of the body meets a clause -/
theorem ps_tryA (stk : X.stack = X.env :: X.outer) (fr : X.env.frame = some X.env.locals) (nd : X.N.Nodup) (at_ : X.N[i]? = some n) (loc : X.env.kindOf n = some .local)
    (hb : ∀ (W : WX) (pn : List (Addr × Obj)) (xe : Value → Shared → Prop), Takes (X.tr pn xe) W → PassesOwn (model X.prog X.w) X.A X.env xe → PSs (X.tr pn xe) body (tb W))
    (hh : HdA X n (hd0 :: hds) l) : PS X (.Try body (hd0 :: hds) [] [] pos) (fun D σ H => tb (wA i D l) D σ H) := by
  constructor
  intro pins s σ H D I goal
  have frames : X.A.frames = some (X.env :: X.outer) := by rw [I.ok.frames, stk]
  have J0 : Inv (X.tr (X.pn ++ pins) (fun e s1 => wpAny (model X.prog X.w) X.A (noteFrame e X.env) (fun _ s2 => wpAny (model X.prog X.w) X.A (setFlight e none)
    (fun _ s3 => wpAny (model X.prog X.w) X.A (handleBy e X.env (hd0 :: hds)) (SP X pins D) X.xe s3) X.xe s2) X.xe s1)) [] σ H s := I.toTry _
  refine wpAny_Try_except (wpAny_mono ((hb (wA i D l) _ _ (fun u s' thrown => ?_) PassesOwn.looking).run [] s σ H D J0 goal) (fun fl s1 hs => ?_) fun _ _ z => z)
  · obtain ⟨a, B, sI, pins', σ1, H1, cls, d, rfl, Jt, nb, up, sky, na, os, ag, want⟩ := thrown
    have J : Inv X pins σ1 H1 sI := Jt.ofTry I.ok
    rw [show (X.tr (X.pn ++ pins) _).stack = X.env :: X.outer from stk] at sky
    show wpAny (model X.prog X.w) X.A (noteFrame (.ref a) X.env) _ _ _
    refine Sky.land Zc.steady frames fr sky fun h1 fl1 up1 => ?_
    obtain ⟨o1, vs1, e1, z1, d1⟩ := fl1.there
    have notF : a ∉ frs (X.env :: X.outer) := fun m => by
      obtain ⟨_, o', e', q⟩ := fl1.2.2.1.mem m
      rw [e1] at e'
      cases e'
      exact q _ d1
    have nL : a ≠ X.env.locals := fun z => notF (List.mem_filterMap.mpr ⟨X.env, List.mem_cons_self, by rw [fr, z]⟩)
    have nF : a ∉ X.fs := fun m => by
      obtain ⟨e, me, q⟩ := List.mem_filterMap.mp m
      exact notF (List.mem_filterMap.mpr ⟨e, List.mem_cons_of_mem _ me, q⟩)
    have young : ∀ u, X.s_0.heap.get? a = some u → a ∈ X.ex := fun u e => by
      by_cases hx : a ∈ X.ex
      · exact hx
      · obtain ⟨o', e'⟩ := J.base.there a u e hx
        have := nb a o' e' (by rw [show (X.tr (X.pn ++ pins) _).stack = X.env :: X.outer from stk]; exact notF)
        rw [fl1.2.1] at this
        cases this
    have J1 : Inv X pins σ1 H1 { s' with heap := h1 } := J.landed nb fl1.1 (up.trans up1) os ag
    -- the clauses, one after the other, at any later heap
    have each : ∀ {hs : List ExceptHandler} {l' : List ((Value → Option Bool) × (Addr → Value → Option Addr → TS))}, HdA X n hs l' → wA i D l' cls d σ1 H1 → ∀ (h : Heap) (t : Nat), HandSPX.FlyingZ B (X.env :: X.outer) a (Zc cls d) h →
        sI.heap.UpToSlots h → wpAny (model X.prog X.w) X.A (handleBy (.ref a) X.env hs) (SP X pins D) X.xe { s' with heap := h, toks := t } := by
      intro hs l' hk
      induction hk with
      | nil => intro z; exact z.elim
      | @cons T f ts b0 suite pos' hs2 l2 ct hsu r ih =>
        rintro ⟨b, fb, yes, no⟩ h t fl u
        obtain ⟨o2, vs2, e2, z2, d2⟩ := fl.there
        have J2 : Inv X pins σ1 H1 { s' with heap := h, toks := t } := J.landed (s' := { s' with heap := h, toks := t }) nb fl.1 u os ag
        have S2 := J2.suite e2 d2 na nL nF
        refine wpAny_handleBy_cons (codeAny_handlers_test (ct.run a o2 _ _ _ _ _ b _ _ S2 (by rw [z2.1]; exact fb) fun h' t' more => ?_)) (by intro q; cases q)
        have u' : sI.heap.UpToSlots h' := u.trans fun b o e _ => ⟨o.slots, more b o e⟩
        cases b with
        | false => exact ih (no rfl) h' t' (flies fl more) u'
        | true =>
          refine codeAny_handlers_suite_as (HandSPX.lands_againZ (flies fl more) fun h4 fl4 up4 => ?_)
          obtain ⟨o4, vs4, e4, z4, d4⟩ := fl4.there
          have J4 : Inv X pins σ1 H1 { s' with heap := h4, toks := t' } := J.landed (s' := { s' with heap := h4, toks := t' }) nb fl4.1 (u'.trans up4) os ag
          refine store_ok (X := X.suite a ((a, o4) :: (X.pn ++ pins))) (v := .ref a) (J4.suite e4 d4 na nL nF) nd at_ (.inl loc) rfl (fun s5 S5 => ?_) (.inr loc)
          refine wpAny_mono ((hsu a o4 cls d (X.pn ++ pins) z4 ⟨_, d4⟩).run [] s5 _ H1 _ S5 (yes rfl a na)) (fun fl5 s6 hs5 => ?_) fun _ _ z => z.elim
          cases fl5 with
          | next =>
            obtain ⟨σ6, H6, S6, q6⟩ := hs5
            obtain ⟨g1, g2, _⟩ := S6.pin (a, o4) (List.mem_append_left _ List.mem_cons_self)
            have J6 : Inv X pins σ6 H6 s6 := S6.unsuite I.ok
            refine gone_ok (adopt J6 g2 g1 z4 d4 nL (fun p hp z => ?_) young) nd at_ loc fun s7 J7 => ⟨_, _, J7, q6⟩
            have w1 := (J4.pin p hp).2.2.2.2
            have w2 := (S6.pin p (List.mem_append_left _ (List.mem_cons_of_mem _ hp))).1
            have w3 := (I.pin p hp).1
            have w4 : B.get? p.1 = some p.2 := nb p.1 p.2 (J.pin p hp).1 (fun m => by
              rw [show (X.tr (X.pn ++ pins) _).stack = X.env :: X.outer from stk] at m
              exact notF ((show p.1 = a from z) ▸ m))
            rw [show p.1 = a from z, fl1.2.1] at w4
            cases w4
          | brk => obtain ⟨_, _, _, z⟩ := hs5; exact z.elim
          | cont => obtain ⟨_, _, _, z⟩ := hs5; exact z.elim
          | ret u => obtain ⟨_, _, _, _, _, z⟩ := hs5; exact z.elim
    exact each hh want h1 s'.toks fl1 (up.trans up1)
  · cases fl with
    | next =>
      obtain ⟨σ2, H2, J2, q⟩ := hs
      exact wpAny_execs_nil ⟨σ2, H2, J2.ofTry I.ok, q⟩
    | brk =>
      obtain ⟨σ2, H2, J2, q⟩ := hs
      exact ⟨σ2, H2, J2.ofTry I.ok, q⟩
    | cont =>
      obtain ⟨σ2, H2, J2, q⟩ := hs
      exact ⟨σ2, H2, J2.ofTry I.ok, q⟩
    | ret u =>
      obtain ⟨v, σ2, H2, J2, r, q⟩ := hs
      exact ⟨v, σ2, H2, J2.ofTry I.ok, r, q⟩
end
end Ap


/-! K12: a kept error is asked: isinstance, its fields. -/
namespace Ap
open PySem L2 PySem.Spec PySem.Calls PyProof.Rows
section
variable {prog : Program} {w : World} {A : Around} {E : Value → Shared → Prop} {s : Shared} {K : PySem.W.Frag} {x D : Addr} {ox : Obj} {od : Option Obj}
/-- what a look for __class__ finds, whatever lies in the own dict -/
theorem find_class (c : ExcC K D) : PySem.W.findObj K D od "__class__" = some (.bind (.builtin "getset_descriptor.__get__") (.builtin "object.__class__")) := by
  have hs : (PySem.W.clsIn K D).isSome = true := by
    obtain ⟨cd, hc, _⟩ := PySem.W.any_some c.hd
    rw [hc]; rfl
  cases od with
  | none => exact PySem.W.findObj_dataN hs c.ha c.hn c.ht
  | some o => exact PySem.W.findObj_data hs c.ha c.hn c.ht
theorem own_class {Q : Option Value → Shared → Prop} (c : ExcC K D) (XI : K.In s.heap) (I : PySem.W.InstAt s.heap x ox D od) (fin : Q (some (.ref D)) { s with toks := s.toks + 1 }) : wpAny (model prog w) A (getAttr? (.ref x) "__class__") Q E s := by
  obtain ⟨hh, gg, dd, tt, oo⟩ := s
  have T0 := I.type (M := model prog w)
  have T1 := PySem.W.looks_findIn (M := model prog w) XI c.hg
  have T2 := PySem.W.looks_findIn (M := model prog w) XI c.hk
  have T3 := PySem.W.looks_find (M := model prog w) XI I (find_class c)
  have isE : PySem.W.Looks (model prog w) hh (isInstance (.ref x) (.type "BaseException")) true := T0.andThen (PySem.W.looks_subIn XI c.hs)
  have ne : (onTheHeap (Value.ref D) && Value.builtin "BaseException.__getattribute__" == Value.builtin "object.__getattribute__") = false := by
    rw [show (Value.builtin "BaseException.__getattribute__" == Value.builtin "object.__getattribute__") = false from by decide +kernel, Bool.and_false]
  unfold getAttr? getAttrBy? getAttrBy
  refine wpAny_bind (wpAny_mkText (wpAny_bind (wpAny_attempt (wpAny_holding (wpAny_bind (T0.at (wpAny_bind (T1.at ?_))))))))
  show wpAny _ _ (if (onTheHeap (Value.ref D) && Value.builtin "BaseException.__getattribute__" == Value.builtin "object.__getattribute__") = true then _ else _) _ _ _
  rw [ne, if_neg Bool.false_ne_true]
  unfold getAttrByItsOwn hookBefore
  rw [if_pos (show onTheHeap (Value.ref D) = true from rfl)]
  refine wpAny_bind (T2.at (wpAny_bind (wpAny_attempt (wpAny_holding ?_))))
  unfold callGetattribute
  rw [show (false && onTheHeap (Value.builtin "BaseException.__getattribute__")) = false from rfl, if_neg Bool.false_ne_true]
  unfold boundAndCalled
  rw [PySem.F.excAttr_ValueError.ga.bind (.ref x)]
  refine wpAny_bind (wpAny_pure (show wpAny _ _ (call (.builtin "BaseException.__getattribute__") [.ref x, .str "__class__" tt]) _ _ _ from ?_))
  refine wpAny_call (codeAny_call_builtin PySem.F.excAttr_ValueError.ga.plain PySem.F.entry_bexc_ga
    (@PySem.W.check_slot (model prog w) _ _ ⟨hh, gg, dd, tt + 1, oo⟩ "BaseException.__getattribute__" "BaseException" "__getattribute__" (.ref x) [.str "__class__" tt] [] _ (by decide +kernel) (by decide +kernel) isE (PySem.F.args_bexc_ga (.ref x) (.str "__class__" tt)) ?_))
  unfold Builtin.«object.__getattribute__»
  refine wpAny_bind (wpAny_of_eq (a := ((Value.ref x : Value), [Value.str "__class__" tt])) (by first | rfl | (simp only [slotArgs]; rfl)) (wpAny_bind (wpAny_pure (wpAny_bind (T0.at (wpAny_bind (T3.at ?_)))))))
  show wpAny _ _ (holding [Value.builtin "object.__class__"] (call (.builtin "getset_descriptor.__get__") [.builtin "object.__class__", .ref x, .ref D]) >>= ret) _ _ _
  refine wpAny_bind (wpAny_holding (wpAny_call (PySem.W.class_get (s := ⟨hh, gg, dd, tt + 1, oo⟩) (ox := ox) (od := od) XI I c.hm (wpAny_pure (show wpAny _ _ (handedOut (.ref D)) _ _ _ from ?_)))))
  rw [PySem.W.handedOut_of (v := .ref D) rfl]
  first
    | exact wpAny_pure (wpAny_pure fin)
    | exact wpAny_pure fin
    | exact wpAny_pure (wpAny_bind (wpAny_pure (wpAny_pure fin)))
theorem kit_exc (c : ExcC K D) : PySem.W.KitX K (.ref x) (.ref D) (fun h => ∃ ox od, PySem.W.InstAt h x ox D od) where
  ty := fun _ _ _ ⟨_, _, I⟩ => I.type
  it := fun _ h XI _ => by
    obtain ⟨cd, hc, _⟩ := PySem.W.any_some c.hd
    unfold PySem.W.clsIn at hc
    split at hc
    · rename_i ho
      intro A1 Q1 E1 s1 k q
      unfold isType loadHead
      exact wpAny_bind (wpAny_loadPart (k _ _ (XI _ _ ho)) (wpAny_pure q))
    · cases hc
  ne := (PySem.W.handS_kitx_exc (ox := { cls := .none, data := .seq #[] }) (x := x) c.hg c.hk c.hs c.hd c.ha c.hn c.ht c.hm).ne
  ca := fun XI ⟨_, _, I⟩ q => own_class c XI I q
end
/-- isinstance(e, c), e an error that H knows -/
def rIsA (K : PySem.W.Frag) : List V → Hp → VK → Prop := fun xs H Q => ∃ (a D : Addr) (d : Option Addr) (c : V) (cv : Value) (b : Bool), xs = [.ref a, c] ∧ H a = some (exA a (.ref D) d) ∧ ExcC K D ∧ (∀ u, RelV c u → u = cv) ∧ PySem.W.kitOne K (.ref D) cv = some b ∧
  (∀ dd, d = some dd → ∃ fs, H dd = some (.xd fs)) ∧ Q (.bl b) H
theorem exA_inst {P : Program} {w : World} {H : Hp} {h : Heap} {a D : Addr} {d : Option Addr} (hok : HOk P w H h) (ha : H a = some (exA a (.ref D) d)) (hd : ∀ dd, d = some dd → ∃ fs, H dd = some (.xd fs)) : ∃ ox od, PySem.W.InstAt h a ox D od := by
  obtain ⟨⟨o, vs, e1, e2, e3, e4⟩, _⟩ := (show ObjOk P w H h a (.ext _) from hok a _ ha)
  refine ⟨o, ?_⟩
  cases hq : d with
  | none => exact ⟨none, e1, e2, by unfold PySem.W.notCls; rw [e4] <;> rfl, by rw [e3, hq]; trivial⟩
  | some dd =>
    obtain ⟨fs, hf⟩ := hd dd hq
    obtain ⟨mA, hns, _⟩ := (show ObjOk P w H h dd (.xd fs) from hok dd _ hf)
    obtain ⟨ob, ho, _⟩ := lookIn_ns hns
    exact ⟨some ob, e1, e2, by unfold PySem.W.notCls; rw [e4] <;> rfl, by rw [e3, hq]; exact ho⟩
theorem cr_isA {X : Cx} : CallR X (.builtin "isinstance") (rIsA X.K) := by
  rintro pins s σ H xs us Q I r ⟨a, D, d, c, cv, b, rfl, ha, hc, hcv, e, hd, q⟩
  cases r with
  | cons r1 r2 =>
    cases r2 with
    | cons r3 r4 =>
      cases r4
      cases r1
      have := hcv _ r3
      subst this
      exact PySem.W.kia_one (kit_exc hc) I.kIn (exA_inst I.hok ha hd) e (fun z => nomatch z) fun tk => ⟨.bl b, H, I.kept (t' := tk) fun _ _ z => z, rfl, q⟩
/-- e.f, e an error that H knows -/
def tXk (K : PySem.W.Frag) (f : Str) (te : TE) : TE := fun σ H Q => te σ H fun x H1 => ∃ (a C dd : Addr) (fs : List (Str × V)) (v : V), x = .ref a ∧ H1 a = some (exA a (.ref C) (some dd)) ∧ XfC K C ∧ PySem.W.findIn K (.ref C) f = some none ∧ H1 dd = some (.xd fs) ∧ fs.lookup f = some v ∧ Q v H1
theorem pe_xk {X : Cx} {e : Expr} {te : TE} {pos : Pos} {f : Str} (he : PE X e te) (hb : attributeBase e f X.env (eval e X.env) = eval e X.env := by rfl) : PE X (.Attribute e f pos) (tXk X.K f te) := by
  refine ⟨fun pins s σ H Q I h => attr_of hb (thn (he.run pins s σ H _ I h) fun u s1 hh => ?_)⟩
  obtain ⟨x, H1, I1, rx, a, C, dd, fs, v, rfl, ha, T, hno, hd, l, q⟩ := hh
  cases rx
  obtain ⟨⟨o, vs, e1, e2, e3, e4⟩, _⟩ := (show ObjOk X.prog X.w H1 s1.heap a (.ext _) from I1.hok a _ ha)
  obtain ⟨mA, hns, hr⟩ := (show ObjOk X.prog X.w H1 s1.heap dd (.xd fs) from I1.hok dd _ hd)
  obtain ⟨ob, ho, hl⟩ := lookIn_ns hns
  obtain ⟨u, hu, ru⟩ := RelO.some_of (v := v) (o := mA f) (by rw [← l]; exact hr f)
  have J : PySem.W.InstAt s1.heap a o C (some ob) := ⟨e1, e2, by unfold PySem.W.notCls; rw [e4] <;> rfl, by rw [e3]; exact ho⟩
  exact HandSPX.exc_get I1.kIn J T.ga T.gg T.exC (PySem.W.findObj_own T.hdC hno rfl (by rw [hl, hu])) (handed_of ru) ⟨v, H1, I1.tok _, ru, q⟩
end Ap


/-! K13: classes: targets that are attributes, methods by keyword, len of an own thing, errors without arguments, steps through them. -/
namespace Ap
open PySem L2 PySem.Spec PySem.Calls PyProof.Rows
section
variable {X : Cx} {CX : CXT} {k : Nat} {C f : Addr} {fd : FuncData} {ps ks : List Str} {sp : Sp} {E : XK} {m x : Str} {p pos apos : Pos} {o e : Expr} {ta te : TE} {kws : List Keyword} {tk : TA} {g : List Value → List Value → List Value} {gV : List V → List V → List V}
/-- o.f as a target -/
def gFld (K : PySem.W.Frag) (ta : TE) (f : Str) : TG := fun v σ H Q => ta σ H fun x H1 => ∃ a C dx fs, x = .ref a ∧ H1 a = some (.ins C dx fs) ∧ Cls K C ∧ NoAttr K C f ∧ fs.length < 1000 ∧ Q σ (upd H1 a (.ins C dx (putF f v fs)))
theorem pg_fld {nm : Str} (ho : PE X o ta) : PG X (.Attribute o nm pos) (gFld X.K ta nm) := by
  refine ⟨fun pins s σ H v u Q I r h => ?_⟩
  rw [PySem.assign_Attribute]
  refine wpAny_bind (wpAny_holding (thn (ho.run pins s σ H _ I h) fun ov s1 hh => ?_))
  obtain ⟨y, H1, I1, ry, a, C, dx, fs, rfl, ea, c, n, l, q⟩ := hh
  cases ry
  refine wpAny_bind (wpAny_standAt (wpAny_bind (wpAny_holding (setattr_ok I1 ea c n l r fun s3 I3 => ?_))))
  exact wpAny_release ⟨σ, _, I3, q⟩
/-- o.m(k=e): one keyword -/
def tMethK (C : Addr) (m : Str) (sp : Sp) (E : XK) (ta : TE) (tk : TA) : TE := fun σ H Q => ta σ H fun x H1 => ∃ a dx fs, x = .ref a ∧ H1 a = some (.ins C dx fs) ∧ fs.lookup m = none ∧ tk σ H1 fun zs H2 => ∃ z, zs = [z] ∧ sp [x, z] H2 Q E
/-- the one parameter behind self may be told by its name -/
def By1 (K : PySem.W.Frag) (fd : FuncData) (a b : Str) : Prop := ∀ (s : Shared) (u v : Value), K.In s.heap → BindsTo s fd ⟨[u], [(b, v)]⟩ [(a, u), (b, v)]
theorem by1 {K : PySem.W.Frag} {x qual a b : Str} {st : Stmt} {f : Addr} {fd : FuncData} (F : Fun K x qual st f fd)
    (h : ∀ (kV doc pm : Value) (an : Option Addr) (cdv ct u v : Value), bindArgs (PySem.W.fnOf x qual (defArgs st) (defBody st) (defScope st) .none kV doc pm an cdv ct) ⟨[u], [(b, v)]⟩ = pure [(a, u), (b, v)]) : By1 K fd a b := by
  obtain ⟨oc, od, kV, doc, pm, an, cdv, ct, osl, rfl, lk, hcd⟩ := F.ex
  exact fun s u v _ => .of_eq (h _ _ _ _ _ _ u v)
theorem pe_methK1 {pl : Sem Bool} {n1 n2 : Str} (he : PE X o ta) (c : Cls X.K C) (hm : Meth X.K C m f) (F : FnOk X.prog X.w X.K X.mg X.base CX k f fd [n1, n2] sp) (hr : Room k X.A) (hb : By1 X.K fd n1 n2) (hx : Passes CX X E) (hk : PK X kws tk)
    (hall : (backToKw pos (keywordEach kws X.env)).all (·.1.isSome) = true := by rfl) (hks : (backToKw pos (keywordEach kws X.env)).filterMap (·.1) = [n2] := by rfl)
    (hpl : ((backTo pos (starEach [] X.env)).any (·.1) || (backToKw pos (keywordEach kws X.env)).any (·.1.isNone)) = false := by rfl)
    (ht : eval (.Call (.Attribute o m apos) [] kws pos) X.env = (do
      let ov ← eval o X.env
      standAt apos.atName
      let (f, first) ← holding [ov] (getMethod ov m pl)
      callWith pos f first (backTo pos (starEach [] X.env)) (backToKw pos (keywordEach kws X.env))) := by rfl) :
    PE X (.Call (.Attribute o m apos) [] kws pos) (tMethK C m sp E ta tk) := by
  refine ⟨fun pins s σ H Q I h => ?_⟩
  refine PySem.W.methodCall_KW (pl := pl) (thn (he.run pins s σ H _ I h) fun u s1 hh => ?_) ht
  obtain ⟨y, H1, I1, ry, a, dx, fs, rfl, ea, l, q⟩ := hh
  cases ry
  refine getmeth_ok I1 ea c hm l (PySem.W.callWith_KW0 (first := [.ref a]) (h₀ := X.base) I1.ok.mod.kin hm.kp hall (thn (hk.run pos pins s1 σ H1 _ I1 q) fun ws s2 hh => ?_) hpl)
  obtain ⟨zs, H2, I2, rz, z, rfl, q2⟩ := hh
  rw [hks]
  cases rz with
  | cons rz rn =>
    cases rn
    rename_i u
    refine ⟨I2.kIn, wpAny_call (codeAny_mono (F.run X.A X.stack s2 H2 ⟨[.ref a], [(n2, u)]⟩ [.ref a, u] [.ref a, z] Q E hr I2.env0 (hb s2 _ u I2.kIn) (.cons rfl (.cons rz .nil)) q2) fun r s' hq => ?_)⟩
    match r, hq with
    | .error e, hq => exact hx pins σ H2 s2 e s' I2 hq
    | .ok (.ret u), hq => exact I2.after hq
    | .ok .next, hq => exact False.elim hq
    | .ok .brk, hq => exact False.elim hq
    | .ok .cont, hq => exact False.elim hq
/-- o.m(k=e) of a generator method -/
def tMethGK (C : Addr) (m : Str) (sp : SpG) (E : XK) (ta : TE) (tk : TA) : TGen := fun σ H cont => ta σ H fun x H1 => ∃ a dx fs, x = .ref a ∧ H1 a = some (.ins C dx fs) ∧ fs.lookup m = none ∧ tk σ H1 fun zs H2 => ∃ z, zs = [z] ∧ sp [x, z] H2 cont E
theorem pgen_methK1 {spg : SpG} {pl : Sem Bool} {n1 n2 : Str} (he : PE X o ta) (c : Cls X.K C) (hm : Meth X.K C m f) (F : GFn X.prog X.w X.K X.mg X.base k f fd [n1, n2] spg) (hr : Room k X.A) (hb : By1 X.K fd n1 n2) (hk : PK X kws tk)
    (hall : (backToKw pos (keywordEach kws X.env)).all (·.1.isSome) = true := by rfl) (hks : (backToKw pos (keywordEach kws X.env)).filterMap (·.1) = [n2] := by rfl)
    (hpl : ((backTo pos (starEach [] X.env)).any (·.1) || (backToKw pos (keywordEach kws X.env)).any (·.1.isNone)) = false := by rfl)
    (ht : eval (.Call (.Attribute o m apos) [] kws pos) X.env = (do
      let ov ← eval o X.env
      standAt apos.atName
      let (f, first) ← holding [ov] (getMethod ov m pl)
      callWith pos f first (backTo pos (starEach [] X.env)) (backToKw pos (keywordEach kws X.env))) := by rfl) :
    PGen X k (.Call (.Attribute o m apos) [] kws pos) (tMethGK C m spg E ta tk) E := by
  refine ⟨fun pins s σ H Q I h => ?_⟩
  refine PySem.W.methodCall_KW (pl := pl) (thn (he.run pins s σ H _ I h) fun u s1 hh => ?_) ht
  obtain ⟨y, H1, I1, ry, a, dx, fs, rfl, ea, l, q⟩ := hh
  cases ry
  refine getmeth_ok I1 ea c hm l (PySem.W.callWith_KW0 (first := [.ref a]) (h₀ := X.base) I1.ok.mod.kin hm.kp hall (thn (hk.run pos pins s1 σ H1 _ I1 q) fun ws s2 hh => ?_) hpl)
  obtain ⟨zs, H2, I2, rz, z, rfl, q2⟩ := hh
  rw [hks]
  cases rz with
  | cons rz rn =>
    cases rn
    rename_i u
    refine ⟨I2.kIn, wpAny_call (codeAny_mono (F.run X.A X.stack s2 H2 ⟨[.ref a], [(n2, u)]⟩ [.ref a, u] [.ref a, z] Q E hr I2.env0 (hb s2 _ u I2.kIn) (.cons rfl (.cons rz .nil)) q2) fun r s' hq => ?_)⟩
    match r, hq with
    | .error e, hq => exact False.elim hq
    | .ok (.ret u), hq => exact ⟨H2, s2, [], I2, .nil, hq⟩
    | .ok .next, hq => exact False.elim hq
    | .ok .brk, hq => exact False.elim hq
    | .ok .cont, hq => exact False.elim hq
/-- o.m() in a try's body -/
def tMeth0S (C : Addr) (m : Str) (sp : Sp) (E : L2.St → XK) (ta : TE) : TE := fun σ H Q => ta σ H fun x H1 => ∃ a dx fs, x = .ref a ∧ H1 a = some (.ins C dx fs) ∧ fs.lookup m = none ∧ sp [x] H1 Q (E σ)
theorem pe_meth0S {ES : L2.St → XK} {pl : Sem Bool} (he : PE X o ta) (c : Cls X.K C) (hm : Meth X.K C m f) (F : FnOk X.prog X.w X.K X.mg X.base CX k f fd ps sp) (hr : Room k X.A) (hb : Binds X.K fd ps []) (hx : ∀ σ, PassesAt CX X σ (ES σ))
    (ht : eval (.Call (.Attribute o m apos) [] [] pos) X.env = (do
      let ov ← eval o X.env
      standAt apos.atName
      let (f, first) ← holding [ov] (getMethod ov m pl)
      callWith pos f first (backTo pos (starEach [] X.env)) (backToKw pos (keywordEach [] X.env))) := by rfl) :
    PE X (.Call (.Attribute o m apos) [] [] pos) (tMeth0S C m sp ES ta) := by
  refine ⟨fun pins s σ H Q I h => PySem.W.methodCall_KW (pl := pl) (thn (he.run pins s σ H _ I h) fun u s1 hh => ?_) ht⟩
  obtain ⟨y, H1, I1, ry, a, dx, fs, rfl, ea, l, q⟩ := hh
  cases ry
  exact getmeth_ok I1 ea c hm l (PySem.W.callWith_K0 (first := [.ref a]) I1.kIn hm.kp (run_fnS (us := [.ref a]) (vs := [.ref a]) F hr hb (hx σ) I1 (.cons rfl .nil) q))
/-- len(o), by the own __len__ -/
def rLnO (C : Addr) (sp : Sp) : List V → Hp → VK → Prop := fun xs H Q => ∃ a dx fs, xs = [.ref a] ∧ H a = some (.ins C dx fs) ∧ sp [.ref a] H (fun v H2 => ∃ n : Nat, v = .int n ∧ n < 2 ^ 60 ∧ Q (.int n) H2) (fun _ _ _ => False)
theorem cr_lenO {a1 : Str} (F : FnOk X.prog X.w X.K X.mg X.base CX0 k f fd [a1] sp) (hr : Room k X.A.in1) (hb : Binds X.K fd [a1] []) (hs : PySem.W.findIn X.K (.ref C) "__len__" = some (some (.ref f))) (hf : PySem.W.isFn X.K (.ref f) = true) : CallR X (.builtin "len") (rLnO C sp) := by
  rintro pins s σ H xs us Q I r ⟨a, dx, fs, rfl, ea, q⟩
  cases r with
  | cons r1 r2 =>
    cases r2
    cases r1
    obtain ⟨mA, O, _, _, _, _⟩ := ins_get I.hok ea
    obtain ⟨od, J, _⟩ := O.look
    refine Calls.call_function_entry PySem.kind_len PySem.plain_len PySem.entry_len (PySem.args_len1 _) ?_
    unfold Builtin.«len»
    refine wpAny_bind (m := oneArg "len" _) (wpAny_pure (wpAny_bind (m := callSpecial? (.ref a) (Str.ofString "__len__")) (PySem.W.special_fn (args := []) I.kIn J hs (beq_iff_eq.mp hf) ?_)))
    refine wpAny_call (codeAny_mono (F.run X.A.in1 X.stack s H ⟨[.ref a], []⟩ [.ref a] [.ref a] _ _ hr I.env0.in1 (hb s [.ref a] I.kIn rfl) (.cons rfl .nil) q) fun r s' hq => ?_)
    match r, hq with
    | .error e, hq => exact False.elim hq
    | .ok (.ret u), hq =>
      obtain ⟨v, H2, I2, rv, n, rfl, hn, q2⟩ := I.after hq
      obtain ⟨tk, rfl⟩ := rv
      have h1 : ¬ ((n : Int) < 0) := by omega
      have h2 : ¬ ((n : Int) ≥ 2 ^ 63) := by omega
      refine wpAny_bind (wpAny_holding (wpAny_pure (wpAny_bind (wpAny_letGo ?_))))
      show wpAny _ _ (if (n : Int) < 0 then _ else _) _ _ _
      rw [if_neg h1]
      show wpAny _ _ (if (n : Int) ≥ 2 ^ 63 then _ else _) _ _ _
      rw [if_neg h2]
      exact wpAny_bind (wpAny_mkInt (wpAny_pure ⟨_, rfl, ⟨.int n, H2, I2.tok _, ⟨_, rfl⟩, q2⟩⟩))
    | .ok .next, hq => exact False.elim hq
    | .ok .brk, hq => exact False.elim hq
    | .ok .cont, hq => exact False.elim hq
/-- X(), an own error without __init__ -/
theorem pmk_bare {bmB : List Value} {B newId initId : String} (F : ExcBaseFacts B newId initId bmB) (q : PySem.W.excIn X.K C bmB newId = true) (gC : X.mg x = some (.ref C)) (kC : PySem.W.keepIn X.K (.ref C) = true) (r : Raises X (.ref C)) (hg : Gl X x)
    (hdb : (x == ("__debug__" : Str)) = false := by decide) : PMk X (.Call (.Name x p) [] [] pos) (fun _ H Q => Q (.ref C) none H) := by
  intro pins s σ H Q I h
  refine wpAny_Call_Name_kw (ld_glob I hg gC (PySem.W.callWith_K0 I.kIn kC ?_) hdb)
  obtain ⟨bm, N, nm, qn, bs, hdct, sn, sub, ab, col, dd, k0, k1, k2, k3, k5, mN, hC, hN, hni, T⟩ := exc_obj I.kIn q
  exact wpAny_call_exc_subT F T hC hN hni (fun h' e hm => mk_of I hm r h (I.hok.gone hm.new)) (by show 0 ≤ sizeLine; exact Nat.zero_le _)
end
/-! steps -/
section
variable {X : Cx} {K : PySem.W.Frag} {σ : L2.St} {H : Hp} {Q : VK} {ta tv : TE} {t : TA} {f m : Str} {a C dx : Addr} {fs fs' : List (Str × V)} {v y : V} {D : Ends} {sp : Sp} {dvs : List V} {E : XK} {rd : V → V → Hp → VK → Prop}
def kFld (K : PySem.W.Frag) (f : Str) (Q : VK) : VK := fun x H1 => ∃ a C dx fs v, x = .ref a ∧ H1 a = some (.ins C dx fs) ∧ Cls K C ∧ NoAttr K C f ∧ fs.lookup f = some v ∧ Q v H1
instance i_fld : St (tFld K ta f σ H Q) (ta σ H (kFld K f Q)) := ⟨id⟩
theorem g_kFld (e : H a = some (.ins C dx fs)) (c : Cls K C) (n : NoAttr K C f) (l : fs.lookup f = some v) (h : Q v H) : kFld K f Q (.ref a) H := ⟨a, C, dx, fs, v, rfl, e, c, n, l, h⟩
def kSf1 (K : PySem.W.Frag) (ta : TE) (f : Str) (R : L2.St → Hp → Prop) (σ : L2.St) : VK := fun y H1 => ta σ H1 fun x H2 => ∃ a C dx fs, x = .ref a ∧ H2 a = some (.ins C dx fs) ∧ Cls K C ∧ NoAttr K C f ∧ fs.length < 1000 ∧ R σ (upd H2 a (.ins C dx (putF f y fs)))
def kSf2 (K : PySem.W.Frag) (f : Str) (R : L2.St → Hp → Prop) (σ : L2.St) (y : V) : VK := fun x H2 => ∃ a C dx fs, x = .ref a ∧ H2 a = some (.ins C dx fs) ∧ Cls K C ∧ NoAttr K C f ∧ fs.length < 1000 ∧ R σ (upd H2 a (.ins C dx (putF f y fs)))
instance i_sFld : St (sFld K ta tv f D σ H) (tv σ H (kSf1 K ta f D.nx σ)) := ⟨id⟩
instance i_kSf1 {R : L2.St → Hp → Prop} : St (kSf1 K ta f R σ y H) (ta σ H (kSf2 K f R σ y)) := ⟨id⟩
theorem g_kSf2 {R : L2.St → Hp → Prop} (e : H a = some (.ins C dx fs)) (c : Cls K C) (n : NoAttr K C f) (l : fs.length < 1000) (p : putF f y fs = fs') (h : R σ (upd H a (.ins C dx fs'))) : kSf2 K f R σ y (.ref a) H := ⟨a, C, dx, fs, rfl, e, c, n, l, p ▸ h⟩
instance i_gFld {R : L2.St → Hp → Prop} : St (gFld K ta f y σ H R) (ta σ H (kSf2 K f R σ y)) := ⟨id⟩
def kSa1 (K : PySem.W.Frag) (tv : TE) (rd : V → V → Hp → VK → Prop) (f : Str) (R : L2.St → Hp → Prop) (σ : L2.St) : VK := fun x H1 => ∃ a C dx fs v, x = .ref a ∧ H1 a = some (.ins C dx fs) ∧ Cls K C ∧ NoAttr K C f ∧ fs.lookup f = some v ∧
  tv σ H1 fun y H2 => rd v y H2 fun z H3 => ∃ dx' fs', H3 a = some (.ins C dx' fs') ∧ fs'.length < 1000 ∧ R σ (upd H3 a (.ins C dx' (putF f z fs')))
instance i_sFldA : St (sFldAug K ta tv rd f D σ H) (ta σ H (kSa1 K tv rd f D.nx σ)) := ⟨id⟩
def kSa2 (a C : Addr) (v : V) (rd : V → V → Hp → VK → Prop) (f : Str) (R : L2.St → Hp → Prop) (σ : L2.St) : VK := fun y H2 => rd v y H2 fun z H3 => ∃ dx' fs', H3 a = some (.ins C dx' fs') ∧ fs'.length < 1000 ∧ R σ (upd H3 a (.ins C dx' (putF f z fs')))
theorem g_kSa1 {R : L2.St → Hp → Prop} (e : H a = some (.ins C dx fs)) (c : Cls K C) (n : NoAttr K C f) (l : fs.lookup f = some v) (h : tv σ H (kSa2 a C v rd f R σ)) : kSa1 K tv rd f R σ (.ref a) H := ⟨a, C, dx, fs, v, rfl, e, c, n, l, h⟩
def kMeth (C : Addr) (m : Str) (sp : Sp) (dvs : List V) (E : XK) (t : TA) (σ : L2.St) (Q : VK) : VK := fun x H1 => ∃ a dx fs, x = .ref a ∧ H1 a = some (.ins C dx fs) ∧ fs.lookup m = none ∧ t σ H1 fun vs H2 => sp (x :: (vs ++ dvs)) H2 Q E
instance i_meth : St (tMeth C m sp dvs E ta t σ H Q) (ta σ H (kMeth C m sp dvs E t σ Q)) := ⟨id⟩
def kArgs (sp : Sp) (x : V) (dvs : List V) (E : XK) (Q : VK) : LK := fun vs H2 => sp (x :: (vs ++ dvs)) H2 Q E
theorem g_kMeth (e : H a = some (.ins C dx fs)) (l : fs.lookup m = none) (h : t σ H (kArgs sp (.ref a) dvs E Q)) : kMeth C m sp dvs E t σ Q (.ref a) H := ⟨a, dx, fs, rfl, e, l, h⟩
instance i_kArgs {x : V} {vs : List V} : St (kArgs sp x dvs E Q vs H) (sp (x :: (vs ++ dvs)) H Q E) := ⟨id⟩
def kMethK (C : Addr) (m : Str) (sp : Sp) (E : XK) (t : TA) (σ : L2.St) (Q : VK) : VK := fun x H1 => ∃ a dx fs, x = .ref a ∧ H1 a = some (.ins C dx fs) ∧ fs.lookup m = none ∧ t σ H1 fun zs H2 => ∃ z, zs = [z] ∧ sp [x, z] H2 Q E
instance i_methK : St (tMethK C m sp E ta t σ H Q) (ta σ H (kMethK C m sp E t σ Q)) := ⟨id⟩
def kArgK (sp : Sp) (x : V) (E : XK) (Q : VK) : LK := fun zs H2 => ∃ z, zs = [z] ∧ sp [x, z] H2 Q E
theorem g_kMethK (e : H a = some (.ins C dx fs)) (l : fs.lookup m = none) (h : t σ H (kArgK sp (.ref a) E Q)) : kMethK C m sp E t σ Q (.ref a) H := ⟨a, dx, fs, rfl, e, l, h⟩
instance i_kArgK {x z : V} : St (kArgK sp x E Q [z] H) (sp [x, z] H Q E) := ⟨fun h => ⟨z, rfl, h⟩⟩
def kM0S (C : Addr) (m : Str) (sp : Sp) (E : XK) (Q : VK) : VK := fun x H1 => ∃ a dx fs, x = .ref a ∧ H1 a = some (.ins C dx fs) ∧ fs.lookup m = none ∧ sp [x] H1 Q E
instance i_meth0S {ES : L2.St → XK} : St (tMeth0S C m sp ES ta σ H Q) (ta σ H (kM0S C m sp (ES σ) Q)) := ⟨id⟩
theorem g_kM0S (e : H a = some (.ins C dx fs)) (l : fs.lookup m = none) (h : sp [.ref a] H Q E) : kM0S C m sp E Q (.ref a) H := ⟨a, dx, fs, rfl, e, l, h⟩
def kProp (C : Addr) (sp : Sp) (dvs : List V) (E : XK) (Q : VK) : VK := fun x H1 => ∃ a dx fs, x = .ref a ∧ H1 a = some (.ins C dx fs) ∧ sp (.ref a :: dvs) H1 Q E
instance i_prop : St (tProp C sp dvs E ta σ H Q) (ta σ H (kProp C sp dvs E Q)) := ⟨id⟩
theorem g_kProp (e : H a = some (.ins C dx fs)) (h : sp (.ref a :: dvs) H Q E) : kProp C sp dvs E Q (.ref a) H := ⟨a, dx, fs, rfl, e, h⟩
end
end Ap


/-! K23: an own error over ValueError or LookupError whose __init__ says super().__init__(x); self.f = x. -/
namespace Ap
open PySem PySem.W PySem.Calls PyProof.Rows L2
theorem store_LookupError : StoreFacts "LookupError" [.type "LookupError", .type "Exception", .type "BaseException", .type "object"] "object.__setattr__" "object" where
  mro := by kernel_rfl
  slot := .of (owner := "object") (n := "__setattr__") (by rw [typeLookup_type, builtinLookup_eq_fast]; kernel_rfl) (by decide +kernel) (by decide +kernel) (by decide +kernel)
    (by first | exact .inl (by decide +kernel) | exact .inr (by decide +kernel)) (by rw [isSubtype_type]; kernel_rfl)
  entry := F.store_ValueError.entry
  kind := by decide +kernel
  split := by decide +kernel
  hasOwner := by decide +kernel
  args := fun a b c => by unfold argsOk; kernel_rfl
  passes := fun self => by kernel_rfl
theorem al_ve (K : PySem.W.Frag) : PySem.W.alongIn K "__init__" [.type "ValueError", .type "Exception", .type "BaseException", .type "object"] = some (some (.builtin "ValueError.__init__")) := by kernel_rfl
theorem al_le (K : PySem.W.Frag) : PySem.W.alongIn K "__init__" [.type "LookupError", .type "Exception", .type "BaseException", .type "object"] = some (some (.builtin "LookupError.__init__")) := by kernel_rfl
/-- what the written part says of such an error -/
structure ErrX (prog : Program) (K : Frag) (mg : Str → Option Value) (B newId initId : String) (tail : List Value) (C f : Addr) (fld x : Str) : Prop where
  sup : mg "super" = none
  boot : bootBuiltins "super" = some (.type "super")
  top : (prog.main.scope.names.lookup ("super" : Str)).isSome = false
  opq : nsIn K cStatics "thirdparty.any" = some none
  cls : ∃ nm q N bs sn sub ab col dd k0 k1 k2 k3 k5, K.lookup C = some (excClassObj nm q C N bs tail true sn sub ab col dd k0 k1 k2 k3 k5 newId)
  sa : findIn K (.ref C) "__setattr__" = some (some (.builtin "object.__setattr__"))
  nof : findIn K (.ref C) fld = some none
  isB : subIn K (.ref C) (.type B) = some true
  init : findIn K (.ref C) "__init__" = some (some (.ref f))
  fty : typeIn K (.ref f) = some (.type "function")
  fn : ∃ (oc kV dc pm ct ccl cl : Value) (od an cdd cld : Option Addr) (osl ccs csl : Array (Option Value)) (qual file : Str) (tf : Tok) (cc cda : Addr) (vs : Array Value) (st : Stmt) (p0 p1 p2 p3 p4 p5 p6 p7 p8 p9 : Pos) (ar : Arg),
    K.lookup f = some ⟨oc, od, .func (ksFn "__init__" qual (defArgs st) (defBody st) (defScope st) .none kV dc pm an (.ref cda) ct cc), osl⟩ ∧ codeIn K (.ref cda) qual = true ∧
    K.lookup cda = some ⟨ccl, cdd, .fields vs, ccs⟩ ∧ vs[2]? = some (.str file tf) ∧ ((prog.main.file : Str) == file) = true ∧ K.lookup cc = some ⟨cl, cld, .cell (some (.ref C)), csl⟩ ∧
    defBody st = [.Expr (.Call (.Attribute (.Call (.Name "super" p0) [] [] p1) "__init__" p2) [.Name x p3] [] p4) p5, .Assign [.Attribute (.Name "self" p6) fld p7] (.Name x p8) p9] ∧
    ((defArgs st).posonlyargs ++ (defArgs st).args).head? = some ar ∧ ar.arg = "self" ∧
    (∀ (s : Shared) (u v : Value), BindsTo s (ksFn "__init__" qual (defArgs st) (defBody st) (defScope st) .none kV dc pm an (.ref cda) ct cc) ⟨[u, v], []⟩ [("self", u), (x, v)]) ∧
    (defScope st).names.lookup ("super" : Str) = some .globalImplicit ∧ (defScope st).names.lookup ("__class__" : Str) = some .free ∧ (defScope st).names.lookup ("self" : Str) = some .local ∧ (defScope st).names.lookup x = some .local ∧
    (defScope st).kind = .function ∧ (defScope st).isCoroutine = false ∧ (defScope st).isGenerator = false ∧ (∀ y ∈ (defScope st).names, y.2 ≠ .cell) ∧
    ∀ L : Addr, interactive (ksEnv qual (defScope st) L f (.ref cda) cc) = false ∧ ∃ pl : Sem Bool, eval (.Call (.Attribute (.Call (.Name "super" p0) [] [] p1) "__init__" p2) [.Name x p3] [] p4) (ksEnv qual (defScope st) L f (.ref cda) cc) = (do
      let ov ← attributeBase (.Call (.Name "super" p0) [] [] p1) "__init__" (ksEnv qual (defScope st) L f (.ref cda) cc) (eval (.Call (.Name "super" p0) [] [] p1) (ksEnv qual (defScope st) L f (.ref cda) cc))
      standAt p2.atName
      let (f1, first) ← holding [ov] (getMethod ov "__init__" pl)
      callWith p4 f1 first (backTo p4 (starEach [.Name x p3] (ksEnv qual (defScope st) L f (.ref cda) cc))) [])
  ne : x ≠ "self"
  dbg : (x == ("__debug__" : Str)) = false
section
open Builtin Builtin.ObjectAttr
variable {prog : Program} {w : World} {A : Around} {E : Value → Shared → Prop} {R : Result → Shared → Prop} {hp : Heap} {g : Array GenState} {d : Drawn} {t : Nat} {os : OsState}
/-- the first field that an own error gets -/
theorem err_store {K : Frag} {B : String} {bm : List Value} {name : Str} {tk : Tok} {v : Value} {x C : Addr} {fv : Array Value} {cd : ClassData} (SB : StoreFacts B bm "object.__setattr__" "object")
    (X : K.In hp) (hx : hp.get? x = some { cls := .ref C, data := .fields fv }) (hcd : clsIn K C = some cd) (hm : cd.mro = .ref C :: bm) (hh : cd.hasDict = true) (ha : findIn K (.ref C) name = some none)
    (hq : ∀ h' tk' dx, (∀ b o, b ≠ x → hp.get? b = some o → h'.get? b = some o) → hp.objs.size ≤ dx → dx ≠ x → h'.get? x = some { cls := .ref C, dict := some dx, data := .fields fv } →
      h'.Ns1 dx (fun y => if y = name then some v else none) → R (.ok (.ret .none)) ⟨h', g, d, tk', os⟩) :
    codeAny (model prog w) A (.call (.builtin "object.__setattr__") ⟨[.ref x, .str name tk, v], []⟩) R ⟨hp, g, d, t, os⟩ := by
  have I : InstAt hp x { cls := .ref C, data := .fields fv } C none := ⟨hx, rfl, rfl, trivial⟩
  have SF := F.store_object
  have hxs : x ≠ hp.objs.size := Nat.ne_of_lt (Heap.lt_size hx)
  have hob : cd.mro.contains (.type "object") = true := by rw [hm, List.contains_cons, SB.hasOwner, Bool.or_true]
  have hne : cd.mro.isEmpty = false := by rw [hm]; rfl
  have sub : Looks (model prog w) hp (isInstance (.ref x) (.type "object")) true := I.type.andThen (looks_mroIn X (by unfold mroIn; rw [hcd, Option.bind_some, hne, if_neg (by decide), hob]))
  have hmr : Looks (model prog w) hp (mroOf (.ref C)) cd.mro := (looks_clsIn X hcd).andThen .now
  have L3 : Looks (model prog w) hp (storeTaker? none) none := .now
  have hcls : Looks (model prog w) hp (classData C) cd := looks_clsIn X hcd
  refine codeAny_call_builtin SF.slot.plain SF.entry (@check_slot (model prog w) _ _ ⟨hp, g, d, t, os⟩ "object.__setattr__" "object" "__setattr__" (.ref x) [.str name tk, v] [] _ SF.kind SF.split sub (SF.args (.ref x) (.str name tk) v) ?_)
  rw [osa_eq, refuse_eq]
  refine wpAny_bind (wpAny_bind (I.type.at (wpAny_bind (hmr.at ?_))))
  rw [hm, refuseLoop_ref, SB.passes]
  refine wpAny_pure (wpAny_bind (I.type.at (wpAny_bind ((looks_findIn X ha).at (wpAny_bind (L3.at ?_))))))
  show wpAny _ _ (storeInOwnDict (.ref x) (.ref C) (.str name tk) name v false) _ _ _
  obtain ⟨nm, bs, mro, ns, qn, hd, sn, sb, ab, col, del⟩ := cd
  dsimp only at hh
  subst hh
  unfold storeInOwnDict ownDictForStores
  repeat (first | with_reducible refine HandSPX.store_in_new ?_ ?_ | with_reducible refine wpAny_loadPart_at hx ?_ | with_reducible refine hcls.at ?_ | wp_step)
  · exact ⟨_, #[], _, (Heap.get?_update_ne _ _ _ _ hxs.symm).trans (Heap.get?_push_at rfl rfl), rfl, fun e he => absurd he (by simp), fun _ => rfl⟩
  · intro h' tk' hn' hs
    have old : (hp.push { cls := .type "dict", data := .dict #[] }).get? x = some { cls := .ref C, data := .fields fv } := Heap.get?_push_of_some _ hx
    refine hq h' tk' hp.objs.size (fun b o hb ho => ?_) (Nat.le_refl _) hxs.symm ?_ hn'
    · exact (hs.2 b (Nat.ne_of_lt (Heap.lt_size ho))).trans ((Heap.get?_update_ne _ _ _ _ hb).trans (Heap.get?_push_of_some _ ho))
    · exact (hs.2 x hxs).trans (Heap.get?_update_self _ old rfl)
/-- super().__init__(..), the wrapper called -/
theorem err_wrap {u e t0 C : Addr} {B newId initId : String} {bm : List Value} {nm q : Str} {N : Addr} {bs : List Value} {sn : List Str} {sub : List Value} {ab : Bool} {col : Option Bool} {dd : Option Addr} {k0 k1 k2 k3 k5 : Option Value} {rest : List Value} {Q : Value → Shared → Prop} (FB : ExcBaseFacts B newId initId bm)
    (hC : hp.get? C = some (excClassObj nm q C N bs bm true sn sub ab col dd k0 k1 k2 k3 k5 newId)) (he : hp.get? e = some (HandSPX.excO C t0)) (hu : hp.get? u = some (kxs_mw initId e)) (hz : rest.length ≤ sizeLine)
    (hq : ∀ h' t1, (∀ b o, b ≠ e → hp.get? b = some o → h'.get? b = some o) → h'.get? e = some (HandSPX.excO C t1) → Q .none ⟨h', g, d, t, os⟩) :
    wpAny (model prog w) A (call (.ref u) rest) Q E ⟨hp, g, d, t, os⟩ := by
  refine wpAny_call (codeAny_of_tree ?_)
  show wpAny _ A.in1 (callAny (.ref u) ⟨rest, []⟩) _ _ _
  simp only [callAny]
  refine wpAny_bind (wpAny_load hu ?_)
  simp only [kxs_mw, show (Value.type "method-wrapper" == Value.type "method" || Value.type "method-wrapper" == Value.type "builtin_function_or_method" || Value.type "method-wrapper" == Value.type "method-wrapper") = true by decide, if_true]
  refine KFB.if_so (by decide) ?_
  refine wpAny_bind (check_bound_init FB.toExcCallFacts hC he rfl ?_)
  refine wpAny_bind (wpAny_pure (wpAny_pure ?_))
  refine ⟨plainId_quiet FB.init.plain _, codeAny_builtin FB.initEntry ?_⟩
  exact exc_init_tree (cls := .ref C) (t0 := t0) (dv := none) (c2 := .none) he hz fun h' k e' _ => hq h' hp.objs.size k e'
/-- its __init__, called -/
theorem err_run {K : Frag} {mg : Str → Option Value} {base : Heap} {B newId initId : String} {tail : List Value} {C f e t0 : Addr} {u : Value} {fld x : Str} (T : ErrX prog K mg B newId initId tail C f fld x) (SB : StoreFacts B tail "object.__setattr__" "object") (FB : ExcBaseFacts B newId initId tail) (KF : KxsFacts B initId)
    (al : alongIn K "__init__" tail = some (some (.builtin initId))) (M : Mod K mg base) (bk : ∀ b o, base.get? b = some o → hp.get? b = some o) (hbe : base.get? e = none) (hroom : A.depth < recursionLimit) (he : hp.get? e = some (HandSPX.excO C t0))
    (hq : ∀ h' tk' t1 dx, (∀ b o, b ≠ e → hp.get? b = some o → h'.get? b = some o) → hp.objs.size ≤ dx → dx ≠ e → h'.get? e = some { cls := .ref C, dict := some dx, data := .fields #[.ref t1, .none, .none, .none, .bool false, .none] } →
      h'.Ns1 dx (fun y => if y = fld then some u else none) → R (.ok (.ret .none)) ⟨h', g, d, tk', os⟩) :
    codeAny (model prog w) A (.call (.ref f) ⟨[.ref e, u], []⟩) R ⟨hp, g, d, t, os⟩ := by
  obtain ⟨oc, kV, dc, pm, ct, ccl, cl, od, an, cdd, cld, osl, ccs, csl, qual, file, tf, cc, cda, vs, st, p0, p1, p2, p3, p4, p5, p6, p7, p8, p9, ar, lf, hcd, lcd, hvs, hfile, lcc, hbody, har, har2, hbind, n1, n2, n3, n4, hk, hco, hgen, hcell, hevs⟩ := T.fn
  obtain ⟨hint, pl, hev⟩ := hevs hp.objs.size
  obtain ⟨nm, q, N, bs, sn, sub, ab, col, dd, k0, k1, k2, k3, k5, lC⟩ := T.cls
  have X0 : K.In hp := M.kin.keeps bk
  have hC := X0 _ _ lC
  have hcl : clsIn K C = some { name := nm, bases := bs, mro := .ref C :: tail, ns := N, qualname := q, hasDict := true, slotNames := sn, subclasses := sub, abstract := ab, collection := col, hasDel := false } := by unfold clsIn; rw [lC] <;> rfl
  have eC : e ≠ C := fun z => by
    rw [z, hC] at he
    cases he
  obtain ⟨mb, hb1, hb2⟩ := M.blt
  refine ks_codeAny_call_defAt (s := ⟨hp, g, d, t, os⟩) (binds := [("self", .ref e), (x, u)]) hroom (X0 _ _ lf) rfl (M.nolimit.keeps bk) (codeRec_of X0 hcd) rfl (hbind _ _ _) hcell (fun y hy => ?_) (fun h₁ hns hk₁ => ?_) hco hgen hk
  · rcases List.mem_cons.mp hy with rfl | hy
    · exact n3
    · cases List.mem_singleton.mp hy
      exact n4
  have X1 : K.In h₁ := X0.keeps hk₁
  have hC1 := hk₁ _ _ hC
  have he1 := hk₁ _ _ he
  have lself : ([("self", Value.ref e), (x, u)] : List (Str × Value)).reverse.lookup (Str.ofString "self") = some (.ref e) := by
    show List.lookup _ [(x, u), ("self", Value.ref e)] = _
    have z : ((Str.ofString "self") == x) = false := by simpa using Ne.symm T.ne
    rw [List.lookup_cons, z]
    simp [List.lookup]
  have lx : ([("self", Value.ref e), (x, u)] : List (Str × Value)).reverse.lookup x = some u := by
    show List.lookup _ [(x, u), ("self", Value.ref e)] = _
    rw [List.lookup_cons, beq_self_eq_true]
  show _root_.PySem.wpAt _ _ _ (execs (defBody st) (ksEnv qual (defScope st) hp.objs.size f (.ref cda) cc)) _ _ _
  rw [hbody]
  have bk1 : ∀ b o, base.get? b = some o → h₁.get? b = some o := fun b o z => hk₁ b o (bk b o z)
  refine ks_wpAt_execs_cons (ks_wpAt_Expr_any (ks_wpAt_MethodCall (pl := pl) (ks_wpAt_super_base (env := ksEnv qual (defScope st) hp.objs.size f (.ref cda) cc) n1 n2 (by decide) rfl (X1 _ _ lf) rfl har rfl (X1 _ _ lcd) rfl hvs hfile T.top ?_) hev) hint)
  refine ks_loadName_global hk n1 (loadGlobal_builtin (env := ksEnv qual (defScope st) hp.objs.size f (.ref cda) cc) (M.glob.keeps bk1) T.sup (hb1.keeps bk1) ((hb2 _ (by decide +kernel)).trans T.boot) ⟨rfl, ?_⟩)
  refine wpAny_loadName_free hk n2 rfl ⟨_, X1 _ _ lcc, rfl⟩ ?_
  rw [har2]
  refine wpAny_loadName_local hk n3 hns lself ?_
  refine ks_wpAny_isType_cls hC1 rfl ⟨rfl, ?_⟩
  refine ks_wpAny_call_super hC1 rfl he1 rfl (fun c z => by cases z) (looks_mroIn X1 (by unfold mroIn; rw [hcl]; simp)) (fun h2 e2 k2 => ?_)
  have X2 : K.In h2 := X1.keeps k2
  have I2 : InstAt h2 e (HandSPX.excO C t0) C none := ⟨k2 _ _ he1, rfl, rfl, trivial⟩
  refine kxs_getMethod KF e2 (looks_opaque X2 T.opq) (l₀ := .ref C :: tail) ((looks_clsIn X2 hcl).andThen .now) (by simp [List.dropWhile_cons]) X2 al (I2.type.andThen (looks_subIn X2 T.isB)) eC (by decide) ?_
  have k3 : ∀ b o, h2.get? b = some o → (h2.push (kxs_mw initId e)).get? b = some o := fun b o z => Heap.get?_push_of_some _ z
  have hu3 : (h2.push (kxs_mw initId e)).get? h2.objs.size = some (kxs_mw initId e) := Heap.get?_push_at rfl rfl
  have k13 : ∀ b o, h₁.get? b = some o → (h2.push (kxs_mw initId e)).get? b = some o := fun b o z => k3 b o (k2 b o z)
  generalize h2.push (kxs_mw initId e) = h3 at *
  generalize h2.objs.size = uo at *
  rw [show starEach [Expr.Name x p3] (ksEnv qual (defScope st) hp.objs.size f (.ref cda) cc) = (false, eval (.Name x p3) (ksEnv qual (defScope st) hp.objs.size f (.ref cda) cc)) :: starEach [] (ksEnv qual (defScope st) hp.objs.size f (.ref cda) cc) from rfl]
  refine kxs_callWith (i := initId) (x := e) rfl (evalArgs_plain (spliced_cons (ESX.ldL (env := ksEnv qual (defScope st) hp.objs.size f (.ref cda) cc) (hns.keeps k13) lx (spliced_none ⟨hu3, ?_⟩) hk n4 T.dbg)))
  refine err_wrap FB (k13 _ _ hC1) (k13 _ _ he1) hu3 (by show (1 : Nat) ≤ _; rw [sizeLine_eq]; decide) (fun h4 t1 k4 e4 => ?_)
  have X4 : K.In h4 := M.kin.keeps fun b o z => k4 b o (fun y => by rw [y, hbe] at z; cases z) (k13 b o (bk1 b o z))
  have Le : hp.objs.size ≠ e := Nat.ne_of_gt (Heap.lt_size he)
  have hns4 := (hns.keeps k13).at fun o q => k4 _ o Le q
  have I4 : InstAt h4 e (HandSPX.excO C t1) C none := ⟨e4, rfl, rfl, trivial⟩
  show _root_.PySem.wpAt _ _ _ (execs [Stmt.Assign [(Expr.Name (Str.ofString "self") p6).Attribute fld p7] (Expr.Name x p8) p9] (ksEnv qual (defScope st) hp.objs.size f (.ref cda) cc)) _ _ _
  refine ks_wpAt_execs_cons (wpAt_of_wpAny (plainObj_wpAny_Assign_Attribute (ESX.ldL (env := ksEnv qual (defScope st) hp.objs.size f (.ref cda) cc) hns4 lx (ESX.ldL (env := ksEnv qual (defScope st) hp.objs.size f (.ref cda) cc) hns4 lself ?_ hk n3 (by decide)) hk n4 T.dbg) (by rfl)))
  refine set_plain X4 I4 T.sa (err_store SB X4 e4 hcl rfl rfl T.nof (fun h5 tk5 dx k5 hdx dne e5 n5 => ?_))
  show _root_.PySem.wpAt _ _ _ (execs [] (ksEnv qual (defScope st) hp.objs.size f (.ref cda) cc)) _ _ _
  exact wpAt_of_wpAny (wpAny_pure (hq h5 tk5 t1 dx (fun b o hb ho => k5 b o hb (k4 b o hb (k13 b o (hk₁ b o ho)))) (Nat.le_trans (Nat.le_of_lt hns4.lt) hdx) dne e5 n5))
end
end Ap
namespace Ap
open PySem L2 PySem.Spec PyProof.Rows
/-- C(e): an own error, what it was made of kept in the field fld -/
def tMkS (C : Addr) (fld : Str) (te : TE) : L2.St → Hp → XK → Prop := fun σ H Q => te σ H fun y H1 => ∀ d, H1 d = none → Q (.ref C) (some d) (upd H1 d (.xd [(fld, y)]))
theorem pmk_sup {X : Cx} {B newId initId : String} {tail : List Value} {C f : Addr} {fld x n : Str} {e : Expr} {te : TE} {p pos : Pos} {k : Nat} (T : ErrX X.prog X.K X.mg B newId initId tail C f fld x) (SB : StoreFacts B tail "object.__setattr__" "object") (FB : ExcBaseFacts B newId initId tail) (KF : PySem.W.KxsFacts B initId)
    (al : PySem.W.alongIn X.K "__init__" tail = some (some (.builtin initId))) (kC : PySem.W.keepIn X.K (.ref C) = true) (r : Raises X (.ref C)) (hr : Room (k + 1) X.A) (hg : Gl X n) (hm : X.mg n = some (.ref C)) (he : PE X e te)
    (hdb : (n == ("__debug__" : Str)) = false := by decide) (hs : starEach [e] X.env = (false, eval e X.env) :: starEach [] X.env := by rfl) (hpl : (backTo pos (starEach [] X.env)).any (·.1) = false := by rfl) :
    PMk X (.Call (.Name n p) [e] [] pos) (tMkS C fld te) := by
  intro pins s σ H Q I h
  obtain ⟨nm, q, N, bs, sn, sub, ab, col, dd, k0, k1, k2, k3, k5, lC⟩ := T.cls
  refine wpAny_Call_Name_kw (ld_glob I hg hm ?_ hdb)
  refine PySem.W.callWith_K (h₀ := X.base) I.ok.mod.kin kC (thn ((pa_cons he pa_nil hs).run pos pins s σ H (fun vs H1 => match vs with | [y] => ∀ d, H1 d = none → Q (.ref C) (some d) (upd H1 d (.xd [(fld, y)])) | _ => False) I h) fun us s1 ⟨vs, H1, I1, r1, q1⟩ => ⟨I1.kIn, ?_⟩) hs hpl
  obtain ⟨y, rfl, q1⟩ : ∃ y, vs = [y] ∧ ∀ d, H1 d = none → Q (.ref C) (some d) (upd H1 d (.xd [(fld, y)])) := by
    match vs, q1 with
    | [y], q1 => exact ⟨y, rfl, q1⟩
  obtain ⟨u, rfl, ry⟩ := vals1 r1
  show wpAny _ _ (call (.ref C) [u]) _ _ _
  obtain ⟨hp, g, dr, tk, os⟩ := s1
  have kk : ∀ b o, hp.get? b = some o → ((hp.push (PySem.W.kdv_tup [u])).push (PySem.HandSPX.excO C hp.objs.size)).get? b = some o := fun b o e => Heap.get?_push_of_some _ (Heap.get?_push_of_some _ e)
  have hget : ((hp.push (PySem.W.kdv_tup [u])).push (PySem.HandSPX.excO C hp.objs.size)).get? (hp.objs.size + 1) = some (PySem.HandSPX.excO C hp.objs.size) := by heap_get
  have hbe : X.base.get? (hp.objs.size + 1) = none := by
    cases z : X.base.get? (hp.objs.size + 1) with
    | none => rfl
    | some o => exact absurd (Heap.lt_size (I1.bk _ _ z)) (by show ¬ hp.objs.size + 1 < hp.objs.size; omega)
  refine wpAny_call (PySem.HandSPX.call_own FB (fun _ => rfl) (I1.kIn _ _ lC) (PySem.W.looks_findIn I1.kIn T.init) (fun self => PySem.W.bind_fn I1.kIn self T.fty) (by show (1 : Nat) ≤ _; rw [sizeLine_eq]; decide)
    (err_run T SB FB KF al I.ok.mod (fun b o z => kk b o (I1.bk b o z)) hbe ?_ hget fun h' tk' t1 dx kp hdx dne he' hn => ?_))
  · have := hr.dp
    rw [make_depth]
    omega
  refine ⟨rfl, ?_⟩
  obtain ⟨G, g1', g2'⟩ := restrict h' fun b => decide (b ≠ hp.objs.size + 1)
  have gk : ∀ b, b ≠ hp.objs.size + 1 → G.get? b = h'.get? b := fun b hb => g1' b (decide_eq_true hb)
  have ge : G.get? (hp.objs.size + 1) = none := g2' _ (by simp)
  have old : ∀ b o, hp.get? b = some o → G.get? b = some o := fun b o z => by
    have hb : b ≠ hp.objs.size + 1 := Nat.ne_of_lt (Nat.lt_succ_of_lt (Heap.lt_size z))
    rw [gk b hb]
    exact kp b o hb (kk b o z)
  have big : hp.objs.size ≤ dx := Nat.le_trans (by simp [Heap.push]; omega) hdx
  have new : ObjOk X.prog X.w (upd H1 dx (.xd [(fld, y)])) G dx (.xd [(fld, y)]) := ⟨_, hn.at fun o z => (gk dx dne).trans z, relO_put (fs := []) (mA := fun _ => none) ry fun g => True.intro⟩
  have J := I1.laid (t' := tk') old big new
  refine ⟨hp.objs.size + 1, _, _, ⟨G, g, dr, tk', os⟩, _, .ref C, some dx, rfl, J, fun b o z => ?_, ge, he', ⟨rfl, rfl⟩, rfl, rfl, ?_, rfl, I1.bare, r, q1 dx (I1.hok.fresh big)⟩
  · by_cases hb : b = hp.objs.size + 1
    · rw [hb, ge] at z
      cases z
    · exact (gk b hb).symm.trans z
  · rw [upd_ne (Ne.symm dne)]
    exact I1.hok.fresh (Nat.le_succ _)
def kMkS (C : Addr) (fld : Str) (Q : XK) : VK := fun y H1 => ∀ d, H1 d = none → Q (.ref C) (some d) (upd H1 d (.xd [(fld, y)]))
instance i_mkS {C : Addr} {fld : Str} {te : TE} {σ : L2.St} {H : Hp} {Q : XK} : St (tMkS C fld te σ H Q) (te σ H (kMkS C fld Q)) := ⟨id⟩
end Ap


namespace Ap
open PySem L2
def topS (i : Nat) : Stmt := PySem.Challenge.pw_apartcalls_k41_what_rooms_refuse.main.body.getD i (.Pass ⟨0, 0, 0, 0⟩)
abbrev s_is_whole : Stmt := topS 10
theorem sc_is_whole : FnScope ["thing"] ["thing"] (defScope s_is_whole) := ⟨rfl, rfl, rfl, by decide +kernel, rfl, by decide +kernel, by decide +kernel⟩
abbrev s_is_within : Stmt := topS 11
theorem sc_is_within : FnScope ["thing", "most"] ["thing", "most"] (defScope s_is_within) := ⟨rfl, rfl, rfl, by decide +kernel, rfl, by decide +kernel, by decide +kernel⟩
abbrev s_check_seats : Stmt := topS 12
theorem sc_check_seats : FnScope ["seats"] ["seats"] (defScope s_check_seats) := ⟨rfl, rfl, rfl, by decide +kernel, rfl, by decide +kernel, by decide +kernel⟩
abbrev s_check_ties : Stmt := topS 13
theorem sc_check_ties : FnScope ["seats", "ties", "seen", "index", "tie"] ["seats", "ties"] (defScope s_check_ties) := ⟨rfl, rfl, rfl, by decide +kernel, rfl, by decide +kernel, by decide +kernel⟩
abbrev s_check_net : Stmt := topS 14
theorem sc_check_net : FnScope ["seats", "ties"] ["seats", "ties"] (defScope s_check_net) := ⟨rfl, rfl, rfl, by decide +kernel, rfl, by decide +kernel, by decide +kernel⟩
abbrev s_near_in : Stmt := topS 15
theorem sc_near_in : FnScope ["seats", "ties", "near", "one", "two", "seat"] ["seats", "ties"] (defScope s_near_in) := ⟨rfl, rfl, rfl, by decide +kernel, rfl, by decide +kernel, by decide +kernel⟩
abbrev s_next_round : Stmt := topS 19
theorem sc_next_round : FnScope ["number", "count"] ["number", "count"] (defScope s_next_round) := ⟨rfl, rfl, rfl, by decide +kernel, rfl, by decide +kernel, by decide +kernel⟩
abbrev s_wrong_place : Stmt := topS 17
theorem sc_wrong_place : FnScope ["things", "count", "seen", "index", "thing"] ["things", "count"] (defScope s_wrong_place) := ⟨rfl, rfl, rfl, by decide +kernel, rfl, by decide +kernel, by decide +kernel⟩
abbrev s_check_order_of : Stmt := topS 18
theorem sc_check_order_of : FnScope ["order", "count", "index"] ["order", "count"] (defScope s_check_order_of) := ⟨rfl, rfl, rfl, by decide +kernel, rfl, by decide +kernel, by decide +kernel⟩
abbrev s_check_standing : Stmt := topS 21
theorem sc_check_standing : FnScope ["seats", "standing", "index"] ["seats", "standing"] (defScope s_check_standing) := ⟨rfl, rfl, rfl, by decide +kernel, rfl, by decide +kernel, by decide +kernel⟩
abbrev s_called_in : Stmt := topS 22
theorem sc_called_in : FnScope ["near", "standing", "calls", "row", "spot", "changes", "one", "two", "seat", "person"] ["near", "standing", "calls"] (defScope s_called_in) := ⟨rfl, rfl, rfl, by decide +kernel, rfl, by decide +kernel, by decide +kernel⟩
abbrev s_Room___init__ : Stmt := inClass (topS 24) 0
theorem sc_Room___init__ : FnScope ["self", "seats", "ties", "standing", "tie"] ["self", "seats", "ties", "standing"] (defScope s_Room___init__) := ⟨rfl, rfl, rfl, by decide +kernel, rfl, by decide +kernel, by decide +kernel⟩
abbrev s_Room_seats : Stmt := inClass (topS 24) 1
theorem sc_Room_seats : FnScope ["self"] ["self"] (defScope s_Room_seats) := ⟨rfl, rfl, rfl, by decide +kernel, rfl, by decide +kernel, by decide +kernel⟩
abbrev s_Room_ties : Stmt := inClass (topS 24) 2
theorem sc_Room_ties : FnScope ["self", "tie"] ["self"] (defScope s_Room_ties) := ⟨rfl, rfl, rfl, by decide +kernel, rfl, by decide +kernel, by decide +kernel⟩
abbrev s_Room_standing : Stmt := inClass (topS 24) 3
theorem sc_Room_standing : FnScope ["self"] ["self"] (defScope s_Room_standing) := ⟨rfl, rfl, rfl, by decide +kernel, rfl, by decide +kernel, by decide +kernel⟩
abbrev s_Room_changes : Stmt := inClass (topS 24) 4
theorem sc_Room_changes : FnScope ["self"] ["self"] (defScope s_Room_changes) := ⟨rfl, rfl, rfl, by decide +kernel, rfl, by decide +kernel, by decide +kernel⟩
abbrev s_Room___len__ : Stmt := inClass (topS 24) 5
theorem sc_Room___len__ : FnScope ["self"] ["self"] (defScope s_Room___len__) := ⟨rfl, rfl, rfl, by decide +kernel, rfl, by decide +kernel, by decide +kernel⟩
abbrev s_Room_make : Stmt := inClass (topS 24) 6
theorem sc_Room_make : FnScope ["self", "calls", "changes"] ["self", "calls"] (defScope s_Room_make) := ⟨rfl, rfl, rfl, by decide +kernel, rfl, by decide +kernel, by decide +kernel⟩
abbrev s_Room_call : Stmt := inClass (topS 24) 7
theorem sc_Room_call : FnScope ["self", "number"] ["self", "number"] (defScope s_Room_call) := ⟨rfl, rfl, rfl, by decide +kernel, rfl, by decide +kernel, by decide +kernel⟩
abbrev s_Room_round : Stmt := inClass (topS 24) 8
theorem sc_Room_round : FnScope ["self", "order"] ["self", "order"] (defScope s_Room_round) := ⟨rfl, rfl, rfl, by decide +kernel, rfl, by decide +kernel, by decide +kernel⟩
abbrev s_Room_round_back : Stmt := inClass (topS 24) 9
theorem sc_Room_round_back : FnScope ["self", "order"] ["self", "order"] (defScope s_Room_round_back) := ⟨rfl, rfl, rfl, by decide +kernel, rfl, by decide +kernel, by decide +kernel⟩
abbrev s_Room_run : Stmt := inClass (topS 24) 10
theorem sc_Room_run : GScope ["self", "calls", "index"] ["self", "calls"] (defScope s_Room_run) := ⟨rfl, rfl, rfl, by decide +kernel, rfl, by decide +kernel, by decide +kernel⟩
abbrev s_Room_undo : Stmt := inClass (topS 24) 11
theorem sc_Room_undo : FnScope ["self"] ["self"] (defScope s_Room_undo) := ⟨rfl, rfl, rfl, by decide +kernel, rfl, by decide +kernel, by decide +kernel⟩
abbrev s_Ldraws : Stmt := topS 26
theorem sc_Ldraws : FnScope ["_law_cell"] ["_law_cell"] (defScope s_Ldraws) := ⟨rfl, rfl, rfl, by decide +kernel, rfl, by decide +kernel, by decide +kernel⟩
abbrev s_Lnext : Stmt := topS 27
theorem sc_Lnext : FnScope ["_law_draws_here", "_law_k", "_law_number"] ["_law_draws_here"] (defScope s_Lnext) := ⟨rfl, rfl, rfl, by decide +kernel, rfl, by decide +kernel, by decide +kernel⟩
abbrev s_Lmixed : Stmt := topS 28
theorem sc_Lmixed : FnScope ["_law_draws_here", "_law_some", "_law_left", "_law_told"] ["_law_draws_here", "_law_some"] (defScope s_Lmixed) := ⟨rfl, rfl, rfl, by decide +kernel, rfl, by decide +kernel, by decide +kernel⟩
abbrev s_Lnet : Stmt := topS 29
theorem sc_Lnet : FnScope ["_law_draws_here", "_law_most", "_law_seats", "_law_kind", "_law_line", "_law_ties", "_law_at", "_law_pick", "_law_other"] ["_law_draws_here", "_law_most"] (defScope s_Lnet) := ⟨rfl, rfl, rfl, by decide +kernel, rfl, by decide +kernel, by decide +kernel⟩
abbrev s_Lcaught : Stmt := topS 30
theorem sc_Lcaught : FnScope ["_law_ask", "_law_error", "e", "_law_kinds"] ["_law_ask"] (defScope s_Lcaught) := ⟨rfl, rfl, rfl, by decide +kernel, rfl, by decide +kernel, by decide +kernel⟩
abbrev s_Lbent : Stmt := topS 31
theorem sc_Lbent : FnScope ["_law_row", "_law_many", "_law_thing", "_law_lots", "_law_at"] ["_law_row"] (defScope s_Lbent) := ⟨rfl, rfl, rfl, by decide +kernel, rfl, by decide +kernel, by decide +kernel⟩
abbrev s_Lmade_right : Stmt := topS 32
theorem sc_Lmade_right : FnScope ["_law_seats", "_law_ties", "_law_standing", "_law_at", "_law_bad", "_law_thing"] ["_law_seats", "_law_ties", "_law_standing"] (defScope s_Lmade_right) := ⟨rfl, rfl, rfl, by decide +kernel, rfl, by decide +kernel, by decide +kernel⟩
abbrev s_Lshown : Stmt := topS 33
theorem sc_Lshown : FnScope ["_law_room"] ["_law_room"] (defScope s_Lshown) := ⟨rfl, rfl, rfl, by decide +kernel, rfl, by decide +kernel, by decide +kernel⟩
abbrev s_Ldeeds_right : Stmt := topS 34
theorem sc_Ldeeds_right : FnScope ["_law_room", "_law_order", "_law_before", "_law_changes", "_law_deeds", "_law_at", "_law_bad"] ["_law_room", "_law_order"] (defScope s_Ldeeds_right) := ⟨rfl, rfl, rfl, by decide +kernel, rfl, by decide +kernel, by decide +kernel⟩
abbrev s_Lright : Stmt := topS 35
theorem sc_Lright : FnScope ["_law_seats", "_law_ties", "_law_standing", "_law_order", "_law_first", "_law_room"] ["_law_seats", "_law_ties", "_law_standing", "_law_order"] (defScope s_Lright) := ⟨rfl, rfl, rfl, by decide +kernel, rfl, by decide +kernel, by decide +kernel⟩
abbrev s_law : Stmt := topS 36
theorem sc_law : FnScope ["_law_script", "_law_draws_here", "_law_seats", "_law_ties", "_law_standing", "_law_order", "_law_before", "_law_cell"] ["_law_script"] (defScope s_law) := ⟨rfl, rfl, rfl, by decide +kernel, rfl, by decide +kernel, by decide +kernel⟩
abbrev s_InvalidNumber___init__ : Stmt := inClass (topS 1) 0

abbrev s_InvalidOrder___init__ : Stmt := inClass (topS 4) 0

abbrev s_InvalidStanding___init__ : Stmt := inClass (topS 3) 0

abbrev s_InvalidTies___init__ : Stmt := inClass (topS 2) 0

abbrev s_UnknownCall___init__ : Stmt := inClass (topS 5) 0

structure Txt (P : Program) (K : PySem.W.Frag) (mg : Str → Option Value) (base : Heap) where
  n_LookupError : mg "LookupError" = none
  n_ValueError : mg "ValueError" = none
  n_all : mg "all" = none
  n_bool : mg "bool" = none
  n_enumerate : mg "enumerate" = none
  n_int : mg "int" = none
  n_isinstance : mg "isinstance" = none
  n_len : mg "len" = none
  n_list : mg "list" = none
  n_max : mg "max" = none
  n_min : mg "min" = none
  n_range : mg "range" = none
  n_repr : mg "repr" = none
  n_set : mg "set" = none
  n_tuple : mg "tuple" = none
  n_zip : mg "zip" = none
  t_FEWEST_SEATS : Tok
  v_FEWEST_SEATS : mg "FEWEST_SEATS" = some (.int 3 t_FEWEST_SEATS)
  t_MOST_SEATS : Tok
  v_MOST_SEATS : mg "MOST_SEATS" = some (.int 40 t_MOST_SEATS)
  C_Room : Addr
  mC_Room : mg "Room" = some (.ref C_Room)
  cl_Room : Cls K C_Room
  nA_Room_many : NoAttr K C_Room "many"
  nA_Room_pairs : NoAttr K C_Room "pairs"
  nA_Room_near : NoAttr K C_Room "near"
  nA_Room_row : NoAttr K C_Room "row"
  nA_Room_changed : NoAttr K C_Room "changed"
  nA_Room_past : NoAttr K C_Room "past"
  X_InvalidNumber : Addr
  xm_InvalidNumber : mg "InvalidNumber" = some (.ref X_InvalidNumber)
  xk_InvalidNumber : PySem.W.keepIn K (.ref X_InvalidNumber) = true
  xs_InvalidNumber : PySem.W.subIn K (.ref X_InvalidNumber) (.type "BaseException") = some true
  xt_InvalidNumber : PySem.W.typeIn K (.ref X_InvalidNumber) = some (.type "type")
  xC_InvalidNumber : ExcC K X_InvalidNumber
  xe_InvalidNumber : PySem.W.exmOne K (.ref X_InvalidNumber) (.ref X_InvalidNumber) = some true
  xf_InvalidNumber : Addr
  xz_InvalidNumber : ErrX P K mg "ValueError" "ValueError.__new__" "ValueError.__init__" [.type "ValueError", .type "Exception", .type "BaseException", .type "object"] X_InvalidNumber xf_InvalidNumber "number" "number"
  X_InvalidOrder : Addr
  xm_InvalidOrder : mg "InvalidOrder" = some (.ref X_InvalidOrder)
  xk_InvalidOrder : PySem.W.keepIn K (.ref X_InvalidOrder) = true
  xs_InvalidOrder : PySem.W.subIn K (.ref X_InvalidOrder) (.type "BaseException") = some true
  xt_InvalidOrder : PySem.W.typeIn K (.ref X_InvalidOrder) = some (.type "type")
  xC_InvalidOrder : ExcC K X_InvalidOrder
  xe_InvalidOrder : PySem.W.exmOne K (.ref X_InvalidOrder) (.ref X_InvalidOrder) = some true
  xf_InvalidOrder : Addr
  xz_InvalidOrder : ErrX P K mg "ValueError" "ValueError.__new__" "ValueError.__init__" [.type "ValueError", .type "Exception", .type "BaseException", .type "object"] X_InvalidOrder xf_InvalidOrder "index" "index"
  X_InvalidStanding : Addr
  xm_InvalidStanding : mg "InvalidStanding" = some (.ref X_InvalidStanding)
  xk_InvalidStanding : PySem.W.keepIn K (.ref X_InvalidStanding) = true
  xs_InvalidStanding : PySem.W.subIn K (.ref X_InvalidStanding) (.type "BaseException") = some true
  xt_InvalidStanding : PySem.W.typeIn K (.ref X_InvalidStanding) = some (.type "type")
  xC_InvalidStanding : ExcC K X_InvalidStanding
  xe_InvalidStanding : PySem.W.exmOne K (.ref X_InvalidStanding) (.ref X_InvalidStanding) = some true
  xf_InvalidStanding : Addr
  xz_InvalidStanding : ErrX P K mg "ValueError" "ValueError.__new__" "ValueError.__init__" [.type "ValueError", .type "Exception", .type "BaseException", .type "object"] X_InvalidStanding xf_InvalidStanding "index" "index"
  X_InvalidTies : Addr
  xm_InvalidTies : mg "InvalidTies" = some (.ref X_InvalidTies)
  xk_InvalidTies : PySem.W.keepIn K (.ref X_InvalidTies) = true
  xs_InvalidTies : PySem.W.subIn K (.ref X_InvalidTies) (.type "BaseException") = some true
  xt_InvalidTies : PySem.W.typeIn K (.ref X_InvalidTies) = some (.type "type")
  xC_InvalidTies : ExcC K X_InvalidTies
  xe_InvalidTies : PySem.W.exmOne K (.ref X_InvalidTies) (.ref X_InvalidTies) = some true
  xf_InvalidTies : Addr
  xz_InvalidTies : ErrX P K mg "ValueError" "ValueError.__new__" "ValueError.__init__" [.type "ValueError", .type "Exception", .type "BaseException", .type "object"] X_InvalidTies xf_InvalidTies "index" "index"
  X_UnknownCall : Addr
  xm_UnknownCall : mg "UnknownCall" = some (.ref X_UnknownCall)
  xk_UnknownCall : PySem.W.keepIn K (.ref X_UnknownCall) = true
  xs_UnknownCall : PySem.W.subIn K (.ref X_UnknownCall) (.type "BaseException") = some true
  xt_UnknownCall : PySem.W.typeIn K (.ref X_UnknownCall) = some (.type "type")
  xC_UnknownCall : ExcC K X_UnknownCall
  xe_UnknownCall : PySem.W.exmOne K (.ref X_UnknownCall) (.ref X_UnknownCall) = some true
  xf_UnknownCall : Addr
  xz_UnknownCall : ErrX P K mg "LookupError" "LookupError.__new__" "LookupError.__init__" [.type "LookupError", .type "Exception", .type "BaseException", .type "object"] X_UnknownCall xf_UnknownCall "number" "number"
  X_NothingToUndo : Addr
  xm_NothingToUndo : mg "NothingToUndo" = some (.ref X_NothingToUndo)
  xi_NothingToUndo : PySem.W.excIn K X_NothingToUndo [.type "LookupError", .type "Exception", .type "BaseException", .type "object"] "LookupError.__new__" = true
  xk_NothingToUndo : PySem.W.keepIn K (.ref X_NothingToUndo) = true
  xs_NothingToUndo : PySem.W.subIn K (.ref X_NothingToUndo) (.type "BaseException") = some true
  xt_NothingToUndo : PySem.W.typeIn K (.ref X_NothingToUndo) = some (.type "type")
  xC_NothingToUndo : ExcC K X_NothingToUndo
  xe_NothingToUndo : PySem.W.exmOne K (.ref X_NothingToUndo) (.ref X_NothingToUndo) = some true
  xb_NothingToUndo : PySem.W.kitOne K (.ref X_NothingToUndo) (.type "LookupError") = some true
  kk_InvalidNumber_InvalidNumber : PySem.W.kitOne K (.ref X_InvalidNumber) (.ref X_InvalidNumber) = some true
  kk_InvalidNumber_InvalidOrder : PySem.W.kitOne K (.ref X_InvalidNumber) (.ref X_InvalidOrder) = some false
  kk_InvalidNumber_InvalidStanding : PySem.W.kitOne K (.ref X_InvalidNumber) (.ref X_InvalidStanding) = some false
  kk_InvalidNumber_InvalidTies : PySem.W.kitOne K (.ref X_InvalidNumber) (.ref X_InvalidTies) = some false
  kk_InvalidNumber_NothingToUndo : PySem.W.kitOne K (.ref X_InvalidNumber) (.ref X_NothingToUndo) = some false
  kk_InvalidNumber_UnknownCall : PySem.W.kitOne K (.ref X_InvalidNumber) (.ref X_UnknownCall) = some false
  xn_InvalidNumber : PySem.W.subIn K (.ref X_InvalidNumber) (.type "StopIteration") = some false
  kb_InvalidNumber_ValueError : PySem.W.kitOne K (.ref X_InvalidNumber) (.type "ValueError") = some true
  kb_InvalidNumber_LookupError : PySem.W.kitOne K (.ref X_InvalidNumber) (.type "LookupError") = some false
  kk_InvalidOrder_InvalidNumber : PySem.W.kitOne K (.ref X_InvalidOrder) (.ref X_InvalidNumber) = some false
  kk_InvalidOrder_InvalidOrder : PySem.W.kitOne K (.ref X_InvalidOrder) (.ref X_InvalidOrder) = some true
  kk_InvalidOrder_InvalidStanding : PySem.W.kitOne K (.ref X_InvalidOrder) (.ref X_InvalidStanding) = some false
  kk_InvalidOrder_InvalidTies : PySem.W.kitOne K (.ref X_InvalidOrder) (.ref X_InvalidTies) = some false
  kk_InvalidOrder_NothingToUndo : PySem.W.kitOne K (.ref X_InvalidOrder) (.ref X_NothingToUndo) = some false
  kk_InvalidOrder_UnknownCall : PySem.W.kitOne K (.ref X_InvalidOrder) (.ref X_UnknownCall) = some false
  xn_InvalidOrder : PySem.W.subIn K (.ref X_InvalidOrder) (.type "StopIteration") = some false
  kb_InvalidOrder_ValueError : PySem.W.kitOne K (.ref X_InvalidOrder) (.type "ValueError") = some true
  kb_InvalidOrder_LookupError : PySem.W.kitOne K (.ref X_InvalidOrder) (.type "LookupError") = some false
  kk_InvalidStanding_InvalidNumber : PySem.W.kitOne K (.ref X_InvalidStanding) (.ref X_InvalidNumber) = some false
  kk_InvalidStanding_InvalidOrder : PySem.W.kitOne K (.ref X_InvalidStanding) (.ref X_InvalidOrder) = some false
  kk_InvalidStanding_InvalidStanding : PySem.W.kitOne K (.ref X_InvalidStanding) (.ref X_InvalidStanding) = some true
  kk_InvalidStanding_InvalidTies : PySem.W.kitOne K (.ref X_InvalidStanding) (.ref X_InvalidTies) = some false
  kk_InvalidStanding_NothingToUndo : PySem.W.kitOne K (.ref X_InvalidStanding) (.ref X_NothingToUndo) = some false
  kk_InvalidStanding_UnknownCall : PySem.W.kitOne K (.ref X_InvalidStanding) (.ref X_UnknownCall) = some false
  xn_InvalidStanding : PySem.W.subIn K (.ref X_InvalidStanding) (.type "StopIteration") = some false
  kb_InvalidStanding_ValueError : PySem.W.kitOne K (.ref X_InvalidStanding) (.type "ValueError") = some true
  kb_InvalidStanding_LookupError : PySem.W.kitOne K (.ref X_InvalidStanding) (.type "LookupError") = some false
  kk_InvalidTies_InvalidNumber : PySem.W.kitOne K (.ref X_InvalidTies) (.ref X_InvalidNumber) = some false
  kk_InvalidTies_InvalidOrder : PySem.W.kitOne K (.ref X_InvalidTies) (.ref X_InvalidOrder) = some false
  kk_InvalidTies_InvalidStanding : PySem.W.kitOne K (.ref X_InvalidTies) (.ref X_InvalidStanding) = some false
  kk_InvalidTies_InvalidTies : PySem.W.kitOne K (.ref X_InvalidTies) (.ref X_InvalidTies) = some true
  kk_InvalidTies_NothingToUndo : PySem.W.kitOne K (.ref X_InvalidTies) (.ref X_NothingToUndo) = some false
  kk_InvalidTies_UnknownCall : PySem.W.kitOne K (.ref X_InvalidTies) (.ref X_UnknownCall) = some false
  xn_InvalidTies : PySem.W.subIn K (.ref X_InvalidTies) (.type "StopIteration") = some false
  kb_InvalidTies_ValueError : PySem.W.kitOne K (.ref X_InvalidTies) (.type "ValueError") = some true
  kb_InvalidTies_LookupError : PySem.W.kitOne K (.ref X_InvalidTies) (.type "LookupError") = some false
  kk_NothingToUndo_InvalidNumber : PySem.W.kitOne K (.ref X_NothingToUndo) (.ref X_InvalidNumber) = some false
  kk_NothingToUndo_InvalidOrder : PySem.W.kitOne K (.ref X_NothingToUndo) (.ref X_InvalidOrder) = some false
  kk_NothingToUndo_InvalidStanding : PySem.W.kitOne K (.ref X_NothingToUndo) (.ref X_InvalidStanding) = some false
  kk_NothingToUndo_InvalidTies : PySem.W.kitOne K (.ref X_NothingToUndo) (.ref X_InvalidTies) = some false
  kk_NothingToUndo_NothingToUndo : PySem.W.kitOne K (.ref X_NothingToUndo) (.ref X_NothingToUndo) = some true
  kk_NothingToUndo_UnknownCall : PySem.W.kitOne K (.ref X_NothingToUndo) (.ref X_UnknownCall) = some false
  xn_NothingToUndo : PySem.W.subIn K (.ref X_NothingToUndo) (.type "StopIteration") = some false
  kb_NothingToUndo_ValueError : PySem.W.kitOne K (.ref X_NothingToUndo) (.type "ValueError") = some false
  kb_NothingToUndo_LookupError : PySem.W.kitOne K (.ref X_NothingToUndo) (.type "LookupError") = some true
  kk_UnknownCall_InvalidNumber : PySem.W.kitOne K (.ref X_UnknownCall) (.ref X_InvalidNumber) = some false
  kk_UnknownCall_InvalidOrder : PySem.W.kitOne K (.ref X_UnknownCall) (.ref X_InvalidOrder) = some false
  kk_UnknownCall_InvalidStanding : PySem.W.kitOne K (.ref X_UnknownCall) (.ref X_InvalidStanding) = some false
  kk_UnknownCall_InvalidTies : PySem.W.kitOne K (.ref X_UnknownCall) (.ref X_InvalidTies) = some false
  kk_UnknownCall_NothingToUndo : PySem.W.kitOne K (.ref X_UnknownCall) (.ref X_NothingToUndo) = some false
  kk_UnknownCall_UnknownCall : PySem.W.kitOne K (.ref X_UnknownCall) (.ref X_UnknownCall) = some true
  xn_UnknownCall : PySem.W.subIn K (.ref X_UnknownCall) (.type "StopIteration") = some false
  kb_UnknownCall_ValueError : PySem.W.kitOne K (.ref X_UnknownCall) (.type "ValueError") = some false
  kb_UnknownCall_LookupError : PySem.W.kitOne K (.ref X_UnknownCall) (.type "LookupError") = some true
  a_is_whole : Addr
  fd_is_whole : FuncData
  F_is_whole : Fun K "is_whole" "is_whole" s_is_whole a_is_whole fd_is_whole
  m_is_whole : mg "is_whole" = some (.ref a_is_whole)
  b_is_whole : Binds K fd_is_whole ["thing"] []
  a_is_within : Addr
  fd_is_within : FuncData
  F_is_within : Fun K "is_within" "is_within" s_is_within a_is_within fd_is_within
  m_is_within : mg "is_within" = some (.ref a_is_within)
  b_is_within : Binds K fd_is_within ["thing", "most"] []
  a_check_seats : Addr
  fd_check_seats : FuncData
  F_check_seats : Fun K "check_seats" "check_seats" s_check_seats a_check_seats fd_check_seats
  m_check_seats : mg "check_seats" = some (.ref a_check_seats)
  b_check_seats : Binds K fd_check_seats ["seats"] []
  a_check_ties : Addr
  fd_check_ties : FuncData
  F_check_ties : Fun K "check_ties" "check_ties" s_check_ties a_check_ties fd_check_ties
  m_check_ties : mg "check_ties" = some (.ref a_check_ties)
  b_check_ties : Binds K fd_check_ties ["seats", "ties"] []
  c_check_ties : Addr
  p_check_ties : Addr
  k_check_ties : fd_check_ties.code = .ref c_check_ties
  TB_check_ties : GxR.TabB base mg c_check_ties p_check_ties
  lg_check_ties : lamT p_check_ties = none
  a_check_net : Addr
  fd_check_net : FuncData
  F_check_net : Fun K "check_net" "check_net" s_check_net a_check_net fd_check_net
  m_check_net : mg "check_net" = some (.ref a_check_net)
  b_check_net : Binds K fd_check_net ["seats", "ties"] []
  a_near_in : Addr
  fd_near_in : FuncData
  F_near_in : Fun K "near_in" "near_in" s_near_in a_near_in fd_near_in
  m_near_in : mg "near_in" = some (.ref a_near_in)
  b_near_in : Binds K fd_near_in ["seats", "ties"] []
  a_next_round : Addr
  fd_next_round : FuncData
  F_next_round : Fun K "next_round" "next_round" s_next_round a_next_round fd_next_round
  m_next_round : mg "next_round" = some (.ref a_next_round)
  b_next_round : Binds K fd_next_round ["number", "count"] []
  a_wrong_place : Addr
  fd_wrong_place : FuncData
  F_wrong_place : Fun K "wrong_place" "wrong_place" s_wrong_place a_wrong_place fd_wrong_place
  m_wrong_place : mg "wrong_place" = some (.ref a_wrong_place)
  b_wrong_place : Binds K fd_wrong_place ["things", "count"] []
  a_check_order_of : Addr
  fd_check_order_of : FuncData
  F_check_order_of : Fun K "check_order_of" "check_order_of" s_check_order_of a_check_order_of fd_check_order_of
  m_check_order_of : mg "check_order_of" = some (.ref a_check_order_of)
  b_check_order_of : Binds K fd_check_order_of ["order", "count"] []
  a_check_standing : Addr
  fd_check_standing : FuncData
  F_check_standing : Fun K "check_standing" "check_standing" s_check_standing a_check_standing fd_check_standing
  m_check_standing : mg "check_standing" = some (.ref a_check_standing)
  b_check_standing : Binds K fd_check_standing ["seats", "standing"] []
  a_called_in : Addr
  fd_called_in : FuncData
  F_called_in : Fun K "called_in" "called_in" s_called_in a_called_in fd_called_in
  m_called_in : mg "called_in" = some (.ref a_called_in)
  b_called_in : Binds K fd_called_in ["near", "standing", "calls"] []
  a_Room___init__ : Addr
  fd_Room___init__ : FuncData
  F_Room___init__ : Fun K "__init__" "Room.__init__" s_Room___init__ a_Room___init__ fd_Room___init__
  b_Room___init__ : Binds K fd_Room___init__ ["self", "seats", "ties", "standing"] []
  mk_Room : Mk K C_Room a_Room___init__
  kr_Room : KBn K fd_Room___init__ ["self", "seats", "ties", "standing"] 1 ["standing", "ties", "seats"] (fun us ws => us ++ ws.reverse) (fun us ws => us ++ ws.reverse)
  a_Room_seats : Addr
  fd_Room_seats : FuncData
  F_Room_seats : Fun K "seats" "Room.seats" s_Room_seats a_Room_seats fd_Room_seats
  b_Room_seats : Binds K fd_Room_seats ["self"] []
  q_Room_seats : Addr
  pr_Room_seats : PropOf K C_Room "seats" q_Room_seats a_Room_seats
  a_Room_ties : Addr
  fd_Room_ties : FuncData
  F_Room_ties : Fun K "ties" "Room.ties" s_Room_ties a_Room_ties fd_Room_ties
  b_Room_ties : Binds K fd_Room_ties ["self"] []
  q_Room_ties : Addr
  pr_Room_ties : PropOf K C_Room "ties" q_Room_ties a_Room_ties
  a_Room_standing : Addr
  fd_Room_standing : FuncData
  F_Room_standing : Fun K "standing" "Room.standing" s_Room_standing a_Room_standing fd_Room_standing
  b_Room_standing : Binds K fd_Room_standing ["self"] []
  q_Room_standing : Addr
  pr_Room_standing : PropOf K C_Room "standing" q_Room_standing a_Room_standing
  a_Room_changes : Addr
  fd_Room_changes : FuncData
  F_Room_changes : Fun K "changes" "Room.changes" s_Room_changes a_Room_changes fd_Room_changes
  b_Room_changes : Binds K fd_Room_changes ["self"] []
  q_Room_changes : Addr
  pr_Room_changes : PropOf K C_Room "changes" q_Room_changes a_Room_changes
  a_Room___len__ : Addr
  fd_Room___len__ : FuncData
  F_Room___len__ : Fun K "__len__" "Room.__len__" s_Room___len__ a_Room___len__ fd_Room___len__
  b_Room___len__ : Binds K fd_Room___len__ ["self"] []
  ln_Room : PySem.W.findIn K (.ref C_Room) "__len__" = some (some (.ref a_Room___len__))
  lf_Room : PySem.W.isFn K (.ref a_Room___len__) = true
  a_Room_make : Addr
  fd_Room_make : FuncData
  F_Room_make : Fun K "make" "Room.make" s_Room_make a_Room_make fd_Room_make
  b_Room_make : Binds K fd_Room_make ["self", "calls"] []
  mt_Room_make : Meth K C_Room "make" a_Room_make
  y_Room_make : By1 K fd_Room_make "self" "calls"
  a_Room_call : Addr
  fd_Room_call : FuncData
  F_Room_call : Fun K "call" "Room.call" s_Room_call a_Room_call fd_Room_call
  b_Room_call : Binds K fd_Room_call ["self", "number"] []
  mt_Room_call : Meth K C_Room "call" a_Room_call
  y_Room_call : By1 K fd_Room_call "self" "number"
  a_Room_round : Addr
  fd_Room_round : FuncData
  F_Room_round : Fun K "round" "Room.round" s_Room_round a_Room_round fd_Room_round
  b_Room_round : Binds K fd_Room_round ["self", "order"] []
  mt_Room_round : Meth K C_Room "round" a_Room_round
  y_Room_round : By1 K fd_Room_round "self" "order"
  a_Room_round_back : Addr
  fd_Room_round_back : FuncData
  F_Room_round_back : Fun K "round_back" "Room.round_back" s_Room_round_back a_Room_round_back fd_Room_round_back
  b_Room_round_back : Binds K fd_Room_round_back ["self", "order"] []
  mt_Room_round_back : Meth K C_Room "round_back" a_Room_round_back
  y_Room_round_back : By1 K fd_Room_round_back "self" "order"
  a_Room_run : Addr
  fd_Room_run : FuncData
  F_Room_run : Fun K "run" "Room.run" s_Room_run a_Room_run fd_Room_run
  b_Room_run : Binds K fd_Room_run ["self", "calls"] []
  mt_Room_run : Meth K C_Room "run" a_Room_run
  y_Room_run : By1 K fd_Room_run "self" "calls"
  a_Room_undo : Addr
  fd_Room_undo : FuncData
  F_Room_undo : Fun K "undo" "Room.undo" s_Room_undo a_Room_undo fd_Room_undo
  b_Room_undo : Binds K fd_Room_undo ["self"] []
  mt_Room_undo : Meth K C_Room "undo" a_Room_undo
  a_Ldraws : Addr
  fd_Ldraws : FuncData
  F_Ldraws : Fun K "_law_draws" "_law_draws" s_Ldraws a_Ldraws fd_Ldraws
  m_Ldraws : mg "_law_draws" = some (.ref a_Ldraws)
  b_Ldraws : Binds K fd_Ldraws ["_law_cell"] []
  a_Lnext : Addr
  fd_Lnext : FuncData
  F_Lnext : Fun K "_law_next" "_law_next" s_Lnext a_Lnext fd_Lnext
  m_Lnext : mg "_law_next" = some (.ref a_Lnext)
  b_Lnext : Binds K fd_Lnext ["_law_draws_here"] []
  a_Lmixed : Addr
  fd_Lmixed : FuncData
  F_Lmixed : Fun K "_law_mixed" "_law_mixed" s_Lmixed a_Lmixed fd_Lmixed
  m_Lmixed : mg "_law_mixed" = some (.ref a_Lmixed)
  b_Lmixed : Binds K fd_Lmixed ["_law_draws_here", "_law_some"] []
  a_Lnet : Addr
  fd_Lnet : FuncData
  F_Lnet : Fun K "_law_net" "_law_net" s_Lnet a_Lnet fd_Lnet
  m_Lnet : mg "_law_net" = some (.ref a_Lnet)
  b_Lnet : Binds K fd_Lnet ["_law_draws_here", "_law_most"] []
  a_Lcaught : Addr
  fd_Lcaught : FuncData
  F_Lcaught : Fun K "_law_caught" "_law_caught" s_Lcaught a_Lcaught fd_Lcaught
  m_Lcaught : mg "_law_caught" = some (.ref a_Lcaught)
  b_Lcaught : Binds K fd_Lcaught ["_law_ask"] []
  a_Lbent : Addr
  fd_Lbent : FuncData
  F_Lbent : Fun K "_law_bent" "_law_bent" s_Lbent a_Lbent fd_Lbent
  m_Lbent : mg "_law_bent" = some (.ref a_Lbent)
  b_Lbent : Binds K fd_Lbent ["_law_row"] []
  a_Lmade_right : Addr
  fd_Lmade_right : FuncData
  F_Lmade_right : Fun K "_law_made_right" "_law_made_right" s_Lmade_right a_Lmade_right fd_Lmade_right
  m_Lmade_right : mg "_law_made_right" = some (.ref a_Lmade_right)
  b_Lmade_right : Binds K fd_Lmade_right ["_law_seats", "_law_ties", "_law_standing"] []
  c_Lmade_right : Addr
  p_Lmade_right : Addr
  k_Lmade_right : fd_Lmade_right.code = .ref c_Lmade_right
  TB_Lmade_right : GxR.TabB base mg c_Lmade_right p_Lmade_right
  lt_Lmade_right : lamT p_Lmade_right = some (("_law_made_right" : Str) ++ ".<locals>." ++ "<lambda>")
  a_Lshown : Addr
  fd_Lshown : FuncData
  F_Lshown : Fun K "_law_shown" "_law_shown" s_Lshown a_Lshown fd_Lshown
  m_Lshown : mg "_law_shown" = some (.ref a_Lshown)
  b_Lshown : Binds K fd_Lshown ["_law_room"] []
  a_Ldeeds_right : Addr
  fd_Ldeeds_right : FuncData
  F_Ldeeds_right : Fun K "_law_deeds_right" "_law_deeds_right" s_Ldeeds_right a_Ldeeds_right fd_Ldeeds_right
  m_Ldeeds_right : mg "_law_deeds_right" = some (.ref a_Ldeeds_right)
  b_Ldeeds_right : Binds K fd_Ldeeds_right ["_law_room", "_law_order"] []
  c_Ldeeds_right : Addr
  p_Ldeeds_right : Addr
  k_Ldeeds_right : fd_Ldeeds_right.code = .ref c_Ldeeds_right
  TB_Ldeeds_right : GxR.TabB base mg c_Ldeeds_right p_Ldeeds_right
  lt_Ldeeds_right : lamT p_Ldeeds_right = some (("_law_deeds_right" : Str) ++ ".<locals>." ++ "<lambda>")
  a_Lright : Addr
  fd_Lright : FuncData
  F_Lright : Fun K "_law_right" "_law_right" s_Lright a_Lright fd_Lright
  m_Lright : mg "_law_right" = some (.ref a_Lright)
  b_Lright : Binds K fd_Lright ["_law_seats", "_law_ties", "_law_standing", "_law_order"] []
  c_Lright : Addr
  p_Lright : Addr
  k_Lright : fd_Lright.code = .ref c_Lright
  TB_Lright : GxR.TabB base mg c_Lright p_Lright
  lt_Lright : lamT p_Lright = some (("_law_right" : Str) ++ ".<locals>." ++ "<lambda>")
  a_law : Addr
  fd_law : FuncData
  F_law : Fun K "law" "law" s_law a_law fd_law
  m_law : mg "law" = some (.ref a_law)
  b_law : Binds K fd_law ["_law_script"] []
def Txt.tbs {P : Program} {K : PySem.W.Frag} {mg : Str → Option Value} {base : Heap} (T : Txt P K mg base) : List Addr := [T.p_check_ties, T.p_Lmade_right, T.p_Ldeeds_right, T.p_Lright]
end Ap


/-! K14: a list by a number. -/
namespace Ap
open PySem L2
section
variable {H : Hp} {Q : VK} {l : Addr} {xs : List V} {k : Int}
theorem g_mul (e : H l = some (.lst xs)) (h1 : -(2 ^ 63) ≤ k) (h2 : k < 2 ^ 63) (hz : xs.length * k.toNat ≤ 1000000) (h : ∀ p, H p = none → Q (.ref p) (upd H p (.lst (List.replicate k.toNat xs).flatten))) : L2.rRep (.ref l) (.int k) H Q :=
  ⟨l, k, xs, rfl, rfl, e, h1, h2, triv_sz hz, h⟩
end
/-- a, b = x, y -/
def kPar (i j : Nat) (R : L2.St → Hp → Prop) (σ : L2.St) : LK := fun vs H1 => ∃ v w, vs = [v, w] ∧ R ((σ.set i (some v)).set j (some w)) H1
instance i_par {i j : Nat} {ta : TA} {D : Ends} {σ : L2.St} {H : Hp} : St (tPar i j ta D σ H) (ta σ H (kPar i j D.nx σ)) := ⟨id⟩
instance i_kPar {i j : Nat} {R : L2.St → Hp → Prop} {σ : L2.St} {H : Hp} {v w : V} : St (kPar i j R σ [v, w] H) (gName i v σ H fun σ' H' => gName j w σ' H' R) := ⟨fun h => ⟨v, w, rfl, h⟩⟩
open PySem in
theorem DaAll.snoc {P : Addr → Prop} {H : Hp} : ∀ {ds : List PyData} {d : PyData} {ps : List V}, DaAll P H ps (ds ++ [d]) → ∃ qs v, ps = qs ++ [v] ∧ DaAll P H qs ds ∧ Da P H v d
  | [], d, _, .cons h .nil => ⟨[], _, rfl, .nil, h⟩
  | e :: ds, d, _, .cons h t => by
    obtain ⟨qs, v, rfl, a, b⟩ := DaAll.snoc t
    exact ⟨_ :: qs, v, rfl, .cons h a, b⟩
theorem zeros (m : Nat) : (List.replicate m [V.int 0]).flatten = (List.replicate m (0 : Int)).map V.int := by
  induction m with
  | zero => rfl
  | succ m ih => rw [List.replicate_succ, List.flatten_cons, ih, List.replicate_succ]; rfl
end Ap


/-! K15: a generator that sleeps while its guests (its consumer's young things) turn into others. -/
namespace Ap
open PySem L2 PySem.Spec PyProof.Rows GenW
/-- from s to z: v is put behind the list at S, the other guests turn, all else stands -/
structure Nap (gs : List Addr) (S : Addr) (v : Value) (s z : Shared) : Prop where
  os : z.os = s.os
  bare : AllBare z.gens
  keep : ∀ b o, b ∉ gs → s.heap.get? b = some o → z.heap.get? b = some o
  live : ∀ b ∈ gs, ∃ o, z.heap.get? b = some o ∧ ∀ v, o.data ≠ .cell v
  own : ∀ acc c, s.heap.get? S = some (lstObj acc c) → ∃ c', z.heap.get? S = some (lstObj (acc.push v) c')
structure Guests (X : Cx) (gs : List Addr) (S : Addr) : Prop where
  own : S ∈ gs
  young : ∀ b ∈ gs, X.s_0.heap.objs.size ≤ b ∧ b ≠ X.env.locals ∧ (∀ x c, X.env.cells.lookup x = some c → c ≠ b) ∧ b ∉ X.fs
  pn : ∀ p ∈ X.pn, p.1 ∉ gs
/-- the guests stand as at s0 -/
def Host (X : Cx) (gs : List Addr) (S : Addr) (ys : List V) (s0 : Shared) (σ : L2.St) (H : Hp) (s : Shared) : Prop := ∃ ps : List (Addr × Obj), (ps.map (·.1) = gs ∧ ∃ acc c, s0.heap.get? S = some (lstObj acc c) ∧ Vals ys acc.toList) ∧ (∀ p ∈ ps, s0.heap.get? p.1 = some p.2) ∧ Inv X ps σ H s
theorem pins_live : ∀ {gs : List Addr} {h : Heap}, (∀ b ∈ gs, ∃ o, h.get? b = some o ∧ ∀ v, o.data ≠ .cell v) → ∃ ps : List (Addr × Obj), ps.map (·.1) = gs ∧ ∀ p ∈ ps, h.get? p.1 = some p.2 ∧ ∀ v, p.2.data ≠ .cell v
  | [], _, _ => ⟨[], rfl, fun _ z => nomatch z⟩
  | b :: r, h, l => by
    obtain ⟨o, e, c⟩ := l b List.mem_cons_self
    obtain ⟨ps, e1, e2⟩ := pins_live (gs := r) (h := h) fun c hc => l c (List.mem_cons_of_mem _ hc)
    exact ⟨(b, o) :: ps, by rw [List.map_cons, e1], fun p hp => by
      cases hp with
      | head => exact ⟨e, c⟩
      | tail _ hp => exact e2 p hp⟩
theorem Host.none {X : Cx} {gs : List Addr} {S : Addr} {ys : List V} {s0 s : Shared} {σ : L2.St} {H : Hp} (h : Host X gs S ys s0 σ H s) : ∀ b ∈ gs, H b = none ∧ ∃ o, s0.heap.get? b = some o ∧ s.heap.get? b = some o := fun b hb => by
  obtain ⟨ps, ⟨e, -⟩, a, I⟩ := h
  rw [← e] at hb
  obtain ⟨p, hp, rfl⟩ := List.mem_map.mp hb
  obtain ⟨w1, w2, _⟩ := I.pin p (List.mem_append_right _ hp)
  exact ⟨w2, p.2, a p hp, w1⟩
/-- awake again -/
theorem Host.wake {X : Cx} {gs : List Addr} {S : Addr} {ys : List V} {x : V} {v : Value} {s0 s z : Shared} {σ : L2.St} {H : Hp} (G : Guests X gs S) (h : Host X gs S ys s0 σ H s) (rv : RelV x v) (n : Nap gs S v s z) : Host X gs S (ys ++ [x]) z σ H z := by
  have hn := fun b hb => (h.none b hb).1
  obtain ⟨_, oS, eS0, eS⟩ := h.none S G.own
  obtain ⟨ps, ⟨e, acc, cc, f0, vv⟩, -, I⟩ := h
  rw [f0] at eS0
  cases eS0
  have I0 : Inv X [] σ H s := I.pins_of fun p hp => nomatch hp
  have nt : ∀ b u, H b = some u → b ∉ gs := fun b u q hb => by rw [hn b hb] at q; cases q
  obtain ⟨n1, n2, n3, n4, n5⟩ := n
  obtain ⟨c2, n5⟩ := n5 acc cc eS
  obtain ⟨hz, gz, dz, tz, oz⟩ := z
  have ho : oz = s.os := n1
  subst ho
  have J : Inv X [] σ H { s with heap := hz, gens := gz, drawn := dz, toks := tz } := by
    refine I0.step (g' := gz) (t' := tz) (d' := dz) (ch := gs) (fun b hb => ⟨.inr (G.young b hb).1, (G.young b hb).2.1, (G.young b hb).2.2.1, fun p hp => ?_⟩)
      (fun b ob _ _ hc q _ => n3 b ob hc q) (fun b ob _ _ hc q _ => ⟨ob.slots, n3 b ob hc q⟩) (fun _ _ _ _ q => q) (fun b ob hc q => ⟨ob, n3 b ob hc q⟩)
      (fun _ _ q => q) (fun _ _ _ q => q) (fun b qs q => ⟨#[], by rw [q]; simp⟩) (fun m hm => ?_) (fun b u q => ?_) n2
    · rcases List.mem_append.mp hp with hp | hp
      · exact fun z => G.pn p hp (z ▸ hb)
      · exact nomatch hp
    · obtain ⟨ob, es, ep, w1, w2⟩ := hm
      exact ⟨ob, es, ep, n3 _ ob (fun y => (G.young _ y).2.1 rfl) w1, w2⟩
    · refine (I0.hok b u q).stay (fun c v hc y => n3 c v ?_ y) (fun _ y => y) fun _ _ y => y
      rcases hc with y | y
      · rw [y]; exact nt b u q
      · exact nt c _ y
  obtain ⟨qs, f1, f2⟩ := pins_live n4
  exact ⟨qs, ⟨f1, _, c2, n5, by rw [Array.toList_push]; exact vv.append (.cons rv .nil)⟩, fun p hp => (f2 p hp).1, J.pins_of fun p hp => by
    have hg : p.1 ∈ gs := by rw [← f1]; exact List.mem_map.mpr ⟨p, hp, rfl⟩
    exact ⟨(f2 p hp).1, hn _ hg, (G.young _ hg).2.1, (G.young _ hg).2.2.2, (f2 p hp).2⟩⟩
/-- few items are handed out, then it sleeps on; Y: what is true when such items are out -/
def NapY (X : Cx) (gs : List Addr) (S : Addr) (few : Nat) (Y : List V → Hp → Prop) : Protocol := fun n s0 v s kap =>
  ∃ ys x σ H, n + 1 + ys.length = few ∧ RelV x v ∧ Host X gs S ys s0 σ H s ∧ Y (ys ++ [x]) H ∧ (ys.length + 1 < few → ∀ z, Nap gs S v s z → kap (.send .none) z)
def NoEnd : GenEnd := fun _ _ _ _ => False
structure NEnds where
  nx : List V → L2.St → Hp → Prop
  bk : List V → L2.St → Hp → Prop := fun _ _ _ => False
  ct : List V → L2.St → Hp → Prop := fun _ _ _ => False
abbrev TNp := NEnds → List V → L2.St → Hp → Prop
def NEnds.at (D : NEnds) (ys : List V) : Ends := ⟨D.nx ys, fun _ _ => False, D.bk ys, D.ct ys⟩
def NSP (X : Cx) (gs : List Addr) (S : Addr) (s0 : Shared) (D : NEnds) (ys : List V) : Flow → Shared → Prop
  | .next, s => ∃ σ H, Host X gs S ys s0 σ H s ∧ D.nx ys σ H
  | .brk, s => ∃ σ H, Host X gs S ys s0 σ H s ∧ D.bk ys σ H
  | .cont, s => ∃ σ H, Host X gs S ys s0 σ H s ∧ D.ct ys σ H
  | .ret _, _ => False
/-- where its code stands -/
structure Spot (X : Cx) (gs : List Addr) (S : Addr) (A : Around) (c : Code) (fs : List Frame) (gd : Bool → Bool) : Prop where
  g : Guests X gs S
  over : A.over c fs = X.A
  split : splitAtGen fs = none
  guard : fs.any Frame.guarded = false
  gd : gd false = false
  nox : ∀ e s, X.xe e s → False
abbrev NSeg (X : Cx) (gs : List Addr) (S : Addr) (few : Nat) (Y : List V → Hp → Prop) (A : Around) := Seg (model X.prog X.w) A NoEnd (NapY X gs S few Y)
/-- what is to follow -/
def Onw (X : Cx) (gs : List Addr) (S : Addr) (few : Nat) (Y : List V → Hp → Prop) (A : Around) (c : Code) (fs : List Frame) (K : Flow → Sem PySem.Fin) (D : NEnds) : Prop :=
  ∀ (n : Nat) (ys : List V) (s0 s : Shared) (f : Flow), n + ys.length = few → NSP X gs S s0 D ys f s → NSeg X gs S few Y A n s0 c (K f) fs s
structure NS (X : Cx) (few : Nat) (Y : List V → Hp → Prop) (st : Stmt) (t : TNp) : Prop where
  run : ∀ (gs : List Addr) (S : Addr) (A : Around) (n : Nat) (ys : List V) (s0 s : Shared) (c : Code) (fs : List Frame) (K : Flow → Sem PySem.Fin) (J : Value → Sem PySem.Fin) (gd : Bool → Bool) (lv : List Value → List Value) (σ : L2.St) (H : Hp) (D : NEnds),
    Spot X gs S A c fs gd → n + ys.length = few → Onw X gs S few Y A c fs K D → Host X gs S ys s0 σ H s → t D ys σ H → NSeg X gs S few Y A n s0 c ((exec st X.env).wrap K J gd lv) fs s
structure NSs (X : Cx) (few : Nat) (Y : List V → Hp → Prop) (st : List Stmt) (t : TNp) : Prop where
  run : ∀ (gs : List Addr) (S : Addr) (A : Around) (n : Nat) (ys : List V) (s0 s : Shared) (c : Code) (fs : List Frame) (K : Flow → Sem PySem.Fin) (J : Value → Sem PySem.Fin) (gd : Bool → Bool) (lv : List Value → List Value) (σ : L2.St) (H : Hp) (D : NEnds),
    Spot X gs S A c fs gd → n + ys.length = few → Onw X gs S few Y A c fs K D → Host X gs S ys s0 σ H s → t D ys σ H → NSeg X gs S few Y A n s0 c ((execs st X.env).wrap K J gd lv) fs s
section
variable {X : Cx} {few : Nat} {Y : List V → Hp → Prop} {st : Stmt} {rest : List Stmt}
def nPlain (t : TS) : TNp := fun D ys σ H => t (D.at ys) σ H
theorem nsp_of {gs : List Addr} {S : Addr} {s0 : Shared} {ps : List (Addr × Obj)} {D : NEnds} {ys : List V} {f : Flow} {s : Shared} (e : ps.map (·.1) = gs ∧ ∃ acc c, s0.heap.get? S = some (lstObj acc c) ∧ Vals ys acc.toList) (a : ∀ p ∈ ps, s0.heap.get? p.1 = some p.2) (h : SP X ps (D.at ys) f s) : NSP X gs S s0 D ys f s := by
  cases f with
  | ret u =>
    obtain ⟨_, _, _, _, _, z⟩ := h
    exact z.elim
  | _ =>
    obtain ⟨σ, H, I, q⟩ := h
    exact ⟨σ, H, ⟨ps, e, a, I⟩, q⟩
theorem ns_ps {t : TS} (h : PS X st t) : NS X few Y st (nPlain t) := by
  constructor
  intro gs SS A n ys s0 s c fs K J gd lv σ H D S hn k ⟨ps, e, a, I⟩ ht
  refine seg_wrap (S.over ▸ wpAny_mono (h.run ps s σ H (D.at ys) I ht) (fun f z hz => k n ys s0 z f hn (nsp_of e a hz)) fun x z hx => (S.nox x z hx).elim)
theorem nss_nil : NSs X few Y [] (fun D ys σ H => D.nx ys σ H) := by
  constructor
  intro gs SS A n ys s0 s c fs K J gd lv σ H D S hn k hH ht
  exact seg_execs_nil (k n ys s0 s .next hn ⟨σ, H, hH, ht⟩)
def nThen (t u : TNp) : TNp := fun D ys σ H => t ⟨fun ys' σ' H' => u D ys' σ' H', D.bk, D.ct⟩ ys σ H
theorem nss_cons {t u : TNp} (a : NS X few Y st t) (b : NSs X few Y rest u) : NSs X few Y (st :: rest) (nThen t u) := by
  constructor
  intro gs SS A n ys s0 s c fs K J gd lv σ H D S hn k hH ht
  refine seg_execs_cons (a.run gs SS A n ys s0 s c fs _ J gd lv σ H ⟨fun ys' σ' H' => u D ys' σ' H', D.bk, D.ct⟩ S hn (fun m zs z0 z f hm hz => ?_) hH ht)
  match f, hz with
  | .next, hz =>
    obtain ⟨σ', H', h', q⟩ := hz
    exact b.run gs SS A m zs z0 z c fs K J gd lv σ' H' D S hm k h' q
  | .brk, hz => exact k m zs z0 z .brk hm hz
  | .cont, hz => exact k m zs z0 z .cont hm hz
/-- yield e -/
def nYield (few : Nat) (Y : List V → Hp → Prop) (te : TE) : TNp := fun D ys σ H => ys.length < few ∧ te σ H fun x H1 => Y (ys ++ [x]) H1 ∧ (ys.length + 1 < few → D.nx (ys ++ [x]) σ H1)
theorem ns_yield {e : Expr} {yp pos : Pos} {te : TE} (he : PE X e te) (hco : X.env.scope.isCoroutine = false := by rfl) (hi : interactive X.env = false := by rfl) : NS X few Y (.Expr (.Yield (some e) yp) pos) (nYield few Y te) := by
  constructor
  intro gs SS A n ys s0 s c fs K J gd lv σ H D S hn k ⟨ps, ep, ap, I⟩ ⟨hlt, ht⟩
  obtain ⟨m, rfl⟩ : ∃ m, n = m + 1 := ⟨n - 1, by omega⟩
  refine seg_Expr_Yield S.split S.gd S.guard (S.over ▸ wpAny_mono (he.run ps s σ H _ I ht) (fun v z hv => ?_) fun x z hx => (S.nox x z hx).elim) hco hi
  obtain ⟨x, H1, I1, rv, q1, q2⟩ := hv
  have H1h : Host X gs SS ys s0 σ H1 z := ⟨ps, ep, ap, I1⟩
  intro kap hk
  refine ⟨ys, x, σ, H1, hn, rv, H1h, q1, fun hlt z' nap => hk .none z' ?_⟩
  refine k m (ys ++ [x]) z' z' .next (by rw [List.length_append, List.length_singleton]; omega) ⟨σ, H1, H1h.wake S.g rv nap, q2 hlt⟩
/-- while -/
def nWhile (tc : TT) (tb : TNp) : TNp := fun D ys σ H => ∃ W : Nat → List V → L2.St → Hp → Prop, (∃ m, W m ys σ H) ∧ ∀ m ys σ H, W m ys σ H →
  tc σ H fun b H1 => if b = true then ∃ N : List V → L2.St → Hp → Prop, (∀ ys' σ' H', N ys' σ' H' → ∃ m', m' < m ∧ W m' ys' σ' H') ∧ tb ⟨N, D.nx, N⟩ ys σ H1 else D.nx ys σ H1
theorem ns_while {test : Expr} {body : List Stmt} {pos : Pos} {tc : TT} {tb : TNp} (hc : PT X test tc) (hb : NSs X few Y body tb) : NS X few Y (.While test body [] pos) (nWhile tc tb) := by
  constructor
  intro gs SS A n ys s0 s c fs K J gd lv σ H D S hn k hH ⟨W, ⟨m0, w0⟩, turn⟩
  refine seg_While fun p => ?_
  generalize hfr : Frame.ret (fun r => ((match r with | .ok f => (.pure f : Sem Flow) | .error e => .raise e).onRaise fun (x : Value) => do
        if (← field x 1) == Value.none then unsupported "frame.own-activation:exception-without-traceback"
        setFlight x X.env.frame).wrap K J gd lv) none (gd false) (lv []) c p [] = fr
  have S1 : Spot X gs SS A (.whileLoop test body [] X.env) (fr :: fs) id := by
    subst hfr
    refine ⟨S.g, (over_loop rfl rfl).trans S.over, ?_, ?_, rfl, S.nox⟩
    · show (splitAtGen fs).map _ = none
      rw [S.split]; rfl
    · show (gd false || fs.any Frame.guarded) = false
      rw [S.gd, S.guard]; rfl
  have leaf : ∀ (f : Flow) {m : Nat} {z0 z : Shared}, NSeg X gs SS few Y A m z0 c (K f) fs z → NSeg X gs SS few Y A m z0 (.whileLoop test body [] X.env) (.pure (.done f)) (fr :: fs) z := fun f {m z0 z} h => by
    subst hfr
    exact seg_leaf (.ok f) h
  have loop : ∀ (m n : Nat) (ys : List V) (s0 s : Shared) (σ : L2.St) (H : Hp), n + ys.length = few → W m ys σ H → Host X gs SS ys s0 σ H s →
      NSeg X gs SS few Y A n s0 (.whileLoop test body [] X.env) ((model X.prog X.w).den (.whileLoop test body [] X.env)) (fr :: fs) s := by
    intro m
    induction m using Nat.strongRecOn with
    | ind m ih =>
      rintro n ys s0 s σ H hn w ⟨ps, ep, ap, I⟩
      refine seg_whileLoop (S1.over ▸ wpAny_mono (hc.run ps s σ H _ I (turn m ys σ H w)) (fun b z hb' => ?_) fun x z hx => (S.nox x z hx).elim)
      obtain ⟨H2, I2, q2⟩ := hb'
      cases b with
      | true =>
        rw [if_pos rfl] at q2 ⊢
        obtain ⟨N, hN, q2⟩ := q2
        have onw : ∀ {m' : Nat} {zs : List V} {z0 z' : Shared}, m' + zs.length = few → (∃ σ' H', Host X gs SS zs z0 σ' H' z' ∧ N zs σ' H') → NSeg X gs SS few Y A m' z0 (.whileLoop test body [] X.env) (.pure (.again (.whileLoop test body [] X.env))) (fr :: fs) z' := fun {m' zs z0 z'} hm hz => by
          obtain ⟨σ', H', h', q⟩ := hz
          obtain ⟨mm, lt, w'⟩ := hN zs σ' H' q
          exact seg_again rfl (ih mm lt m' zs z0 z' σ' H' hm w' h')
        refine hb.run gs SS A n ys s0 z _ _ _ _ id id σ H2 ⟨N, D.nx, N⟩ S1 hn (fun m' zs z0 z' f hm hz => ?_) ⟨ps, ep, ap, I2⟩ q2
        match f, hz with
        | .next, hz => exact onw hm hz
        | .cont, hz => exact onw hm hz
        | .brk, hz => exact leaf .next (k m' zs z0 z' .next hm hz)
      | false =>
        rw [if_neg Bool.false_ne_true] at q2 ⊢
        exact seg_execs_nil (leaf .next (k n ys s0 z .next hn ⟨σ, H2, ⟨ps, ep, ap, I2⟩, q2⟩))
  exact loop m0 n ys s0 s σ H hn w0 hH
end
end Ap


/-! K16: the call of a generator def whose generator sleeps between its items; the same by a method. -/
namespace Ap
open PySem L2 PySem.Spec PyProof.Rows GenW
abbrev noE : XK := fun _ _ _ => False
/-- the context of its body -/
abbrev ncxOf (P : Program) (w : World) (K : PySem.W.Frag) (mg : Str → Option Value) (base : Heap) (N : List Str) (qual : Str) (scope : Scope) (f : Addr) (cd : Value) (A : Around) (outer : List Env) (s : Shared) (H : Hp) (pn : List (Addr × Obj)) : Cx :=
  (gcxOf P w K mg base N qual scope f cd A outer s H noE pn).nox
/-- an item is handed out, told over the call's own state -/
def NapG (P : Program) (w : World) (outer : List Env) (H : Hp) (s : Shared) (a : Addr) (g : Nat) (gs : List Addr) (S : Addr) (few : Nat) (Y : List V → Hp → Prop) : Protocol := fun n s0 v s1 kap =>
  ∃ ys x H', n + 1 + ys.length = few ∧ RelV x v ∧ s1.os = s.os ∧ AllBare s1.gens ∧ s1.heap.NoLimit ∧ s1.heap.IsGen a g ∧ Un (frs outer) [] H H' s.heap s1.heap ∧ HOk P w H' s1.heap ∧
    (∀ b ∈ gs, H' b = none ∧ ∃ o, s0.heap.get? b = some o ∧ s1.heap.get? b = some o) ∧ (∃ acc c, s0.heap.get? S = some (lstObj acc c) ∧ Vals ys acc.toList) ∧ Y (ys ++ [x]) H' ∧ (ys.length + 1 < few → ∀ z, Nap gs S v s1 z → kap (.send .none) z)
/-- a generator that has not begun -/
structure NMade (P : Program) (w : World) (k : Nat) (outer : List Env) (H : Hp) (s : Shared) (few : Nat) (Y : List V → Hp → Prop) (a : Addr) (g : Nat) (c : Code) (s' : Shared) : Prop where
  lo : s.heap.objs.size ≤ a
  hi : a < s'.heap.objs.size
  gen : s'.heap.IsGen a g
  at_ : s'.gens[g]? = some (.fresh c)
  os : s'.os = s.os
  bare : AllBare s'.gens
  lim : s'.heap.NoLimit
  keep : ∀ b o, s.heap.get? b = some o → s'.heap.get? b = some o
  wake : 0 < few → ∀ (A : Around) (gs : List Addr) (S : Addr) (z : Shared), Room k A → A.frames = some outer → (∀ b ∈ gs, s'.heap.objs.size ≤ b) → (∀ b o, s'.heap.get? b = some o → z.heap.get? b = some o) → (∀ b ∈ gs, ∃ o, z.heap.get? b = some o ∧ ∀ v, o.data ≠ .cell v) →
    S ∈ gs → (∃ c, z.heap.get? S = some (lstObj #[] c)) → z.os = s.os → AllBare z.gens → Seg (model P w) A NoEnd (NapG P w outer H s a g gs S few Y) few z c ((model P w).den c) [] z
abbrev SpN := List V → Hp → Nat → (List V → Hp → Prop) → Prop
structure NFn (P : Program) (w : World) (K : PySem.W.Frag) (mg : Str → Option Value) (base : Heap) (k : Nat) (f : Addr) (fd : FuncData) (ps : List Str) (sp : SpN) : Prop where
  len : ∀ vs H few Y, sp vs H few Y → vs.length = ps.length
  run : ∀ (A : Around) (outer : List Env) (s : Shared) (H : Hp) (args : Args) (us : List Value) (vs : List V) (few : Nat) (Y : List V → Hp → Prop), Room k A → Env0 P w K mg base A outer s H → BindsTo s fd args (ps.zip us) → Vals vs us → sp vs H few Y →
    codeAny (model P w) A (.call (.ref f) args) (fun r s' => ∃ a g c, r = .ok (.ret (.ref a)) ∧ NMade P w k outer H s few Y a g c s') s
section
variable {P : Program} {w : World} {K : PySem.W.Frag} {mg : Str → Option Value} {base : Heap} {k : Nat} {f : Addr} {fd : FuncData} {ps : List Str} {sp : SpN}
theorem nfn_of {x qual : Str} {st : Stmt} {N : List Str} (F : Fun K x qual st f fd) (S : GScope N ps (defScope st)) (len : ∀ vs H few Y, sp vs H few Y → vs.length = ps.length)
    (body : ∀ (cdv : Value) (A : Around) (outer : List Env) (s : Shared) (H : Hp) (vs : List V) (few : Nat) (Y : List V → Hp → Prop) (pn : List (Addr × Obj)), fd.code = cdv → Room k (A.deeper (envOfC qual (defScope st) s.heap.objs.size f cdv)) → sp vs H few Y → 0 < few →
      ∃ t, NSs (ncxOf P w K mg base N qual (defScope st) f cdv A outer s H pn) few Y (defBody st) t ∧ t ⟨fun _ _ _ => False, fun _ _ _ => False, fun _ _ _ => False⟩ [] (start N vs) H) :
    NFn P w K mg base (k + 1) f fd ps sp := by
  obtain ⟨oc, od, kV, doc, pm, an, cdv, ct, osl, rfl, lk, hcd⟩ := F.ex
  refine ⟨len, fun A outer s H args us vs few Y hr e0 hb rv hsp => ?_⟩
  have ln := len _ _ _ _ hsp
  have kin : K.In s.heap := e0.mod.kin.keeps fun b o e => (e0.bs b o e).1
  refine codeAny_call_generator hr.depth (kin f _ lk) rfl S.co S.gen rfl (PySem.W.codeRec_of kin hcd) (hb _ _ _ _ ?_)
  refine wpAny_newFunctionEnv_cells S.kind (fun y hy => ?_) fun env he s1 inc => ?_
  · rcases S.par y.1 (List.of_mem_zip (show (y.1, y.2) ∈ ps.zip us from hy)).1 with q | q
    · exact .inl q
    · exact .inr ⟨q, PySem.W.cellsFrom_some _ _ _ (.inl q)⟩
  subst he
  have kp1 := inc.toInCall.keep
  have lim1 : s1.heap.NoLimit := (e0.mod.nolimit.keeps fun b o e => (e0.bs b o e).1).keeps kp1
  refine ⟨lim1, s1.heap.objs.size, s1.gens.size, .func (defBody st) (envOfC qual (defScope st) s.heap.objs.size f cdv), rfl, ?_⟩
  obtain ⟨h1, tk, es1, hk1⟩ := inc.done
  have os1 : s1.os = s.os := by rw [es1]
  have gens1 : s1.gens = s.gens := by rw [es1]
  have lt1 : s.heap.objs.size < s1.heap.objs.size := inc.toInCall.ns.lt
  generalize hgo : ({ cls := .type "generator", data := .fields #[.int s1.gens.size 0, .str x s1.toks, .str qual (s1.toks + 1)] } : Obj) = go
  have isGen : ∀ h : Heap, h.get? s1.heap.objs.size = some go → h.IsGen s1.heap.objs.size s1.gens.size := fun h e => by
    subst hgo
    exact ⟨_, _, _, e, rfl, rfl, rfl⟩
  have goD : ∀ v, go.data ≠ .cell v := fun v z => by subst hgo; cases z
  have pushed : (s1.heap.push go).get? s1.heap.objs.size = some go := Heap.get?_push_size _ (by subst hgo; rfl)
  refine ⟨Nat.le_of_lt lt1, by rw [Heap.size_push]; exact Nat.lt_succ_self _, isGen _ pushed, Array.getElem?_push_size .., os1, AllBare.push (by rw [gens1]; exact e0.bare) rfl, lim1.keeps fun b o e => Heap.get?_push_of_some _ e, fun b o e => Heap.get?_push_of_some _ (kp1 b o e), ?_⟩
  intro pos Aw gs SS z hrw hfr hgs hk2 hlive hSm hSo hos hba
  have e0w : Env0 P w K mg base Aw outer s H := ⟨hfr, e0.mod, e0.bs, e0.bsz, e0.funs, e0.frf, e0.hok, e0.bare⟩
  obtain ⟨t, ht, hq⟩ := body cdv Aw outer s H vs few Y [(s1.heap.objs.size, go)] rfl (hrw.deeper _) hsp pos
  have I1 : Inv (gcxOf P w K mg base N qual (defScope st) f cdv Aw outer s H noE []) [] (start N vs) H s1 := inv_startG S hrw.hd e0w ln rv inc
  have kp2 : ∀ b o, s1.heap.get? b = some o → z.heap.get? b = some o := fun b o e => hk2 b o (Heap.get?_push_of_some _ e)
  have I2 : Inv (gcxOf P w K mg base N qual (defScope st) f cdv Aw outer s H noE []) [] (start N vs) H z := I1.call' (ch := []) (hos.trans os1.symm) (Un.kept kp2) (I1.hok.kept kp2) hba fun b y => nomatch y
  have goz : z.heap.get? s1.heap.objs.size = some go := hk2 _ _ pushed
  have young : ∀ b, s1.heap.objs.size ≤ b → H b = none ∧ b ≠ s.heap.objs.size ∧ b ∉ frs outer ∧ s.heap.objs.size ≤ b ∧ ∀ y c, (cellsFrom (s.heap.objs.size + 1) (defScope st).names []).lookup y = some c → c ≠ b := fun b hb =>
    ⟨I1.hok.fresh hb, Nat.ne_of_gt (Nat.lt_of_lt_of_le lt1 hb), I1.nofs hb, Nat.le_trans (Nat.le_of_lt lt1) hb, fun y c e q => by
      obtain ⟨v, ob, ho, _⟩ := I1.cell y c e
      have l := Heap.lt_size ho
      rw [q] at l
      exact absurd (Nat.lt_of_lt_of_le l hb) (Nat.lt_irrefl _)⟩
  have later : ∀ b ∈ gs, s1.heap.objs.size < b := fun b hb => by
    have := hgs b hb
    rw [Heap.size_push] at this
    exact this
  obtain ⟨qs, f1, f2⟩ := pins_live hlive
  have inGs : ∀ p ∈ qs, p.1 ∈ gs := fun p hp => by rw [← f1]; exact List.mem_map.mpr ⟨p, hp, rfl⟩
  have I3 : Inv (gcxOf P w K mg base N qual (defScope st) f cdv Aw outer s H noE [(s1.heap.objs.size, go)]) qs (start N vs) H z := Inv.pinnedG I2 fun p hp => by
    rcases List.mem_append.mp hp with hp | hp
    · cases List.mem_singleton.mp hp
      obtain ⟨y1, y2, y3, _⟩ := young s1.heap.objs.size (Nat.le_refl _)
      exact ⟨goz, y1, y2, y3, goD⟩
    · obtain ⟨y1, y2, y3, _⟩ := young p.1 (Nat.le_of_lt (later _ (inGs p hp)))
      exact ⟨(f2 p hp).1, y1, y2, y3, (f2 p hp).2⟩
  obtain ⟨cS, hSo⟩ := hSo
  have hH : Host (ncxOf P w K mg base N qual (defScope st) f cdv Aw outer s H [(s1.heap.objs.size, go)]) gs SS [] z (start N vs) H z := ⟨qs, ⟨f1, #[], cS, hSo, .nil⟩, fun p hp => (f2 p hp).1, I3.wish _⟩
  have G : Guests (ncxOf P w K mg base N qual (defScope st) f cdv Aw outer s H [(s1.heap.objs.size, go)]) gs SS := ⟨hSm, fun b hb => by
      obtain ⟨_, y2, y3, y4, y5⟩ := young b (Nat.le_of_lt (later b hb))
      exact ⟨y4, y2, y5, y3⟩, fun p hp hm => by
      cases List.mem_singleton.mp (show p ∈ [(s1.heap.objs.size, go)] from hp)
      exact absurd (later _ hm) (Nat.lt_irrefl _)⟩
  refine seg_func (seg_imp (R := NoEnd) (Y := NapY (ncxOf P w K mg base N qual (defScope st) f cdv Aw outer s H [(s1.heap.objs.size, go)]) gs SS few Y) (fun _ _ _ _ q => q) (fun n s0 v s2 kap kap' hkk hY => ?_) few ?_)
  · obtain ⟨ys, y, σ', H', hn, ry, hHo, hYy, nx⟩ := hY
    have non := hHo.none
    obtain ⟨ps', ⟨_, hacc⟩, _, J⟩ := hHo
    have gz := (J.pin (s1.heap.objs.size, go) (List.mem_append_left _ (List.mem_singleton.mpr rfl))).1
    exact ⟨ys, y, H', hn, ry, J.os, J.bare, J.nolimit, isGen _ gz, J.base, J.hok, non, hacc, hYy, fun lt z' nap => hkk _ _ (nx lt z' nap)⟩
  · refine ht.run gs SS Aw few [] z z (.func (defBody st) (envOfC qual (defScope st) s.heap.objs.size f cdv)) [] _ _ id id (start N vs) H _ ⟨G, over_func, rfl, rfl, rfl, fun _ _ q => q⟩ (Nat.add_zero _) (fun n ys s0 s' fl _ hz => ?_) hH hq
    match fl, hz with
    | .next, ⟨_, _, _, q⟩ => exact q.elim
    | .brk, ⟨_, _, _, q⟩ => exact q.elim
    | .cont, ⟨_, _, _, q⟩ => exact q.elim
end
end Ap


/-! K17: zip(range(k), g) at the heap's level, g a generator. -/
namespace Ap
open PySem L2 PySem.Spec PyProof.Rows GenW
open PySem.Sem (wp)
section
variable {prog : Program} {w : World} {A : Around} {E : Value → Shared → Prop} {s : Shared}
theorem nextOf_range {it : Addr} {x left : Int} {Q : Value → Shared → Prop} (hit : IsRangeIter s.heap it x left 1) (hl : 0 < left)
    (hQ : ∀ h', IsRangeIter h' it (x + 1) (left - 1) 1 → Heap.SameBut it s.heap h' → Q (.int x s.toks) { s with heap := h', toks := s.toks + 1 }) : wpAny (model prog w) A (Builtin.SmallTypes.nextOf (.ref it)) Q E s := by
  unfold Builtin.SmallTypes.nextOf
  exact wpAny_bind (CpRep.range_item hit hl fun h' a b => wpAny_pure (hQ h' a b))
theorem nextOf_rangeEnd {it : Addr} {x left : Int} {Q : Value → Shared → Prop} (hh : A.handled = none) (hit : IsRangeIter s.heap it x left 1) (hl : left ≤ 0)
    (hE : ∀ e h', (∃ o, h'.get? e = some o ∧ o.cls = .type "StopIteration") → Heap.ExtBut it s.heap h' → E (.ref e) { s with heap := h' }) : wpAny (model prog w) A (Builtin.SmallTypes.nextOf (.ref it)) Q E s := by
  unfold Builtin.SmallTypes.nextOf
  refine wpAny_bind (CpRep.range_end hh hit hl fun e h' st x => ?_)
  obtain ⟨a, o, vs, rfl, e1, e2, _⟩ := st
  exact hE a h' ⟨o, e1, e2⟩ x
/-- the generator wakes and hands out an item -/
theorem nextOf_gen {a : Addr} {g n : Nat} {gs : GenState} {Y : Protocol} {Q : Value → Shared → Prop} (hl : s.heap.NoLimit) (hroom : A.depth < recursionLimit) (hg : s.heap.IsGen a g) (hgs : s.gens[g]? = some gs)
    (hgo : gs.Goes (model prog w) A.in1 NoEnd Y n (.send .none) (s.setGen g .running))
    (hY : ∀ v s1 gs', gs'.bare = true → Y (n - 1) (s.setGen g .running) v s1 (fun r' s'' => match n with
        | 0 => False
        | m + 1 => gs'.Goes (model prog w) A.in1 NoEnd Y m r' s'') → Q v (s1.setGen g gs')) :
    wpAny (model prog w) A (Builtin.SmallTypes.nextOf (.ref a)) Q E s := by
  unfold Builtin.SmallTypes.nextOf
  refine wpAny_bind (wpAny_callSpecial?_slot (name := Str.ofString "__next__") hg.typeIs slot_gen_next (wpAny_call_entry slot_gen_next hg.typeIs entry_gen_next ?_ (args_gen_next _)))
  show wpAny _ A.in1 (Builtin.Generator.genWake (.ref a) (.send .none)) _ _ s
  unfold Builtin.Generator.genWake
  refine wpAny_bind (wpAny_holding (wpAny_genNumber hg (wpAny_bind (wpAny_genState hgs ?_))))
  cases gs with
  | running => exact hgo.elim
  | finished => exact hgo.elim
  | _ =>
    refine wpAny_bind (wpAny_roomToWake hl hroom ?_)
    show wpAny _ A.in1 (.resume g (.send .none) [] _) _ _ s
    exact wpAny_resumeQ hgs hgo (fun x s1 z => z.elim) fun v s1 gs' hb hv => wpAny_pure ⟨v, rfl, wpAny_pure (hY v s1 gs' hb hv)⟩
/-- the zip's things lie apart -/
structure ZApart (z TI TO it a : Addr) : Prop where
  TIz : TI ≠ z
  TOz : TO ≠ z
  TITO : TI ≠ TO
  TIit : TI ≠ it
  TOit : TO ≠ it
  zit : z ≠ it
theorem zipN_item {z TI TO it a : Addr} {x left : Int} {p q : Value} {Q : Option Value → Shared → Prop} (D : ZApart z TI TO it a) (hz : IsZip s.heap z TI TO .none) (hTI : IsPair s.heap TI (.ref it) (.ref a)) (hTO : IsPair s.heap TO p q)
    (hit : IsRangeIter s.heap it x left 1) (hl : 0 < left)
    (hgen : ∀ h2, IsZip h2 z TI TO .ellipsis → IsPair h2 TO (.int x s.toks) q → IsRangeIter h2 it (x + 1) (left - 1) 1 → (∀ c o, c ≠ z → c ≠ TO → c ≠ it → s.heap.get? c = some o → h2.get? c = some o) →
      wpAny (model prog w) A.in1 (Builtin.SmallTypes.nextOf (.ref a)) (fun v s3 => IsZip s3.heap z TI TO .ellipsis ∧ IsPair s3.heap TO (.int x s.toks) q ∧
        ∀ h', IsZip h' z TI TO (rawInt s3.heap.objs.size) → IsPair h' TO (.int x s.toks) v → IsPair h' s3.heap.objs.size (.int x s.toks) v → (∀ c o, c ≠ z → c ≠ TO → s3.heap.get? c = some o → h'.get? c = some o) → Q (some (.ref s3.heap.objs.size)) { s3 with heap := h' })
        (fun _ _ => False) { s with heap := h2, toks := s.toks + 1 }) :
    wpAny (model prog w) A (pyNext (.ref z)) Q E s := by
  have hT : s.TypeIs (.ref z) "zip" := ⟨_, hz, rfl⟩
  unfold pyNext
  refine wpAny_bind (wpAny_attempt (wpAny_callSpecial?_slot (name := Str.ofString "__next__") hT F.slot_zip_next (wpAny_call_entry F.slot_zip_next hT F.entry_zip_next ?_ (F.args_zip_next_1 _))))
  obtain ⟨hp, gg, dd, tk, oo⟩ := s
  show wpAny _ _ (field (.ref z) 2 >>= _) _ _ _
  refine wpAny_bind (wpAny_field hz rfl (x := .bool false) rfl ?_)
  show wpAny _ _ (field (.ref z) 3 >>= _) _ _ _
  refine wpAny_bind (wpAny_field hz rfl (x := .ref TI) rfl (wpAny_bind (wpAny_seqItems hTI rfl ?_)))
  show wpAny _ _ (Builtin.SmallTypes.ownedTupleIsFree (.ref z) >>= _) _ _ _
  refine wpAny_bind ?_
  unfold Builtin.SmallTypes.ownedTupleIsFree
  refine wpAny_bind (wpAny_field hz rfl (x := .none) rfl (wpAny_pure ?_))
  simp only [if_true]
  refine wpAny_bind (wpAny_rule (wpAny_bind (wpAny_field hz rfl (x := .ref TO) rfl (wpAny_bind (wpAny_setField_rec hz (by simp) fun k0 z0 b0 => ?_)))))
  have z0 : IsZip k0 z TI TO .ellipsis := z0
  refine wpAny_bind ?_
  simp only [List.zipIdx_cons, List.zipIdx_nil, List.forIn_cons, List.forIn_nil]
  refine wpAny_bind (wpAny_bind (wpAny_onRaise ?_))
  show wpAny _ _ (Builtin.SmallTypes.nextOf (.ref it) >>= _) _ _ _
  refine wpAny_bind (nextOf_range (b0.extBut _ _ (Ne.symm D.zit) hit) hl fun k1 i1 b1 => wpAny_pure ?_)
  have p1 : IsPair k1 TO p q := b1.extBut _ _ D.TOit (b0.extBut _ _ D.TOz hTO)
  refine wpAny_bind (wpAny_seqItems p1 rfl (wpAny_bind (wpAny_updateSeq_pair p1 fun k2 p2 b2 => wpAny_bind (wpAny_letGo (wpAny_pure ?_)))))
  have p2 : IsPair k2 TO (.int x tk) q := p2
  have z2 : IsZip k2 z TI TO .ellipsis := b2.extBut _ _ (Ne.symm D.TOz) (b1.extBut _ _ D.zit z0)
  have i2 : IsRangeIter k2 it (x + 1) (left - 1) 1 := b2.extBut _ _ (Ne.symm D.TOit) i1
  refine wpAny_bind (wpAny_bind (wpAny_onRaise ?_))
  show wpAny _ _ (Builtin.SmallTypes.nextOf (.ref a) >>= _) _ _ _
  refine wpAny_bind (wpAny_mono (hgen k2 z2 p2 i2 fun c o c1 c2 c3 e => b2.extBut _ _ c2 (b1.extBut _ _ c3 (b0.extBut _ _ c1 e))) (fun v s3 ⟨z3, p3, fin⟩ => wpAny_pure ?_) fun _ _ y => y.elim)
  obtain ⟨k3, g3, d3, t3, o3⟩ := s3
  refine wpAny_bind (wpAny_seqItems p3 rfl (wpAny_bind (wpAny_updateSeq_pair p3 fun k4 p4 b4 => wpAny_bind (wpAny_letGo (wpAny_pure (wpAny_pure ?_))))))
  have p4 : IsPair k4 TO (.int x tk) v := p4
  refine wpAny_bind (wpAny_seqItems p4 rfl (wpAny_bind (wpAny_newTuple ?_)))
  have sz4 : k4.objs.size = k3.objs.size := b4.1
  have z4 : IsZip k4 z TI TO .ellipsis := b4.extBut _ _ (Ne.symm D.TOz) z3
  have lz : z < k4.objs.size := Heap.lt_size z4
  show wpAny _ _ (Builtin.SmallTypes.ownedTupleHandOut (.ref z) (.ref k4.objs.size) >>= _) _ _ _
  refine wpAny_bind ?_
  unfold Builtin.SmallTypes.ownedTupleHandOut
  have z5 : IsZip (k4.push { cls := .type "tuple", data := .seq #[.int x tk, v] }) z TI TO .ellipsis := Heap.get?_push_of_some _ z4
  refine wpAny_bind (wpAny_setField_rec z5 (by simp) fun k6 z6 b6 => ?_)
  have z6 : IsZip k6 z TI TO (rawInt k4.objs.size) := z6
  refine wpAny_setField_rec z6 (by simp) fun k7 z7 b7 => wpAny_pure ⟨_, rfl, wpAny_pure ?_⟩
  have z7 : IsZip k7 z TI TO (rawInt k4.objs.size) := z7
  have up : ∀ c o, c ≠ z → k4.get? c = some o → k7.get? c = some o := fun c o c1 e => b7.extBut _ _ c1 (b6.extBut _ _ c1 (Heap.get?_push_of_some _ e))
  have t7 : IsPair k7 k4.objs.size (.int x tk) v := b7.extBut _ _ (Nat.ne_of_gt lz) (b6.extBut _ _ (Nat.ne_of_gt lz) (Heap.get?_push_size _ rfl))
  have := fin k7 (by rw [← sz4]; exact z7) (up _ _ D.TOz p4) (by rw [← sz4]; exact t7) fun c o c1 c2 e => up c o c1 (b4.extBut _ _ c2 e)
  rw [← sz4] at this
  exact this
theorem zipN_end {z TI TO it a : Addr} {x left : Int} {p q : Value} {Q : Option Value → Shared → Prop} (hh : A.handled = none) (D : ZApart z TI TO it a) (hz : IsZip s.heap z TI TO .none) (hTI : IsPair s.heap TI (.ref it) (.ref a)) (hTO : IsPair s.heap TO p q)
    (hit : IsRangeIter s.heap it x left 1) (hl : left ≤ 0) (hQ : ∀ h', (∀ c o, c ≠ z → c ≠ it → s.heap.get? c = some o → h'.get? c = some o) → Q none { s with heap := h' }) : wpAny (model prog w) A (pyNext (.ref z)) Q E s := by
  have hT : s.TypeIs (.ref z) "zip" := ⟨_, hz, rfl⟩
  unfold pyNext
  refine wpAny_bind (wpAny_attempt (wpAny_callSpecial?_slot (name := Str.ofString "__next__") hT F.slot_zip_next (wpAny_call_entry F.slot_zip_next hT F.entry_zip_next ?_ (F.args_zip_next_1 _))))
  obtain ⟨hp, gg, dd, tk, oo⟩ := s
  show wpAny _ _ (field (.ref z) 2 >>= _) _ _ _
  refine wpAny_bind (wpAny_field hz rfl (x := .bool false) rfl ?_)
  show wpAny _ _ (field (.ref z) 3 >>= _) _ _ _
  refine wpAny_bind (wpAny_field hz rfl (x := .ref TI) rfl (wpAny_bind (wpAny_seqItems hTI rfl ?_)))
  show wpAny _ _ (Builtin.SmallTypes.ownedTupleIsFree (.ref z) >>= _) _ _ _
  refine wpAny_bind ?_
  unfold Builtin.SmallTypes.ownedTupleIsFree
  refine wpAny_bind (wpAny_field hz rfl (x := .none) rfl (wpAny_pure ?_))
  simp only [if_true]
  refine wpAny_bind (wpAny_rule (wpAny_bind (wpAny_field hz rfl (x := .ref TO) rfl (wpAny_bind (wpAny_setField_rec hz (by simp) fun k0 z0 b0 => ?_)))))
  have z0 : IsZip k0 z TI TO .ellipsis := z0
  refine wpAny_bind ?_
  simp only [List.zipIdx_cons, List.zipIdx_nil, List.forIn_cons, List.forIn_nil]
  refine wpAny_bind (wpAny_bind (wpAny_onRaise ?_))
  show wpAny _ _ (Builtin.SmallTypes.nextOf (.ref it) >>= _) _ _ _
  refine wpAny_bind (nextOf_rangeEnd hh (b0.extBut _ _ (Ne.symm D.zit) hit) hl fun e k1 ho b1 => ?_)
  obtain ⟨oe, e1, e2⟩ := ho
  have z1 : IsZip k1 z TI TO .ellipsis := b1 _ _ D.zit z0
  have ez : e ≠ z := fun y => by subst y; rw [z1] at e1; cases e1; simp at e2
  refine wpAny_setField_rec (s := ⟨k1, gg, dd, tk, oo⟩) z1 (by simp) fun k2 _ b2 => ?_
  refine wpAny_bind (wpAny_isInstance (T := "StopIteration") (b := true) ⟨oe, b2.extBut _ _ ez e1, e2⟩ isSubtype_stop (wpAny_pure (hQ k2 fun c o c1 c2 y => ?_)))
  exact b2.extBut _ _ c1 (b1 _ _ c2 (b0.extBut _ _ c1 y))
end
abbrev zpI (h : Heap) (x n : Int) : Heap := h.push { cls := .type "range_iterator", data := .fields #[rawInt x, rawInt n, rawInt 1] }
abbrev zpT (h : Heap) (x n : Int) (a : Addr) : Heap := (zpI h x n).push { cls := .type "tuple", data := .seq #[.ref h.objs.size, .ref a] }
abbrev zpO (h : Heap) (x n : Int) (a : Addr) : Heap := (zpT h x n a).push { cls := .type "tuple", data := .seq #[.none, .none] }
abbrev zpZ (h : Heap) (x n : Int) (a : Addr) : Heap := (zpO h x n a).push { cls := .type "zip", data := .fields #[.none, .bool false, .bool false, .ref (zpI h x n).objs.size, .ref (zpT h x n a).objs.size] }
theorem meets_zipN {r a : Addr} {g : Nat} {x y : Int} {t u v : Tok} (sm : Builtin.Range.small x y 1 = true) :
    Meets (Builtin.«zip.__new__» ⟨[.type "zip", .ref r, .ref a], []⟩) (fun _ R s => (IsRange s.heap r x y 1 t u v ∧ s.heap.IsGen a g) ∧
      R (.ok (.ret (.ref (zpO s.heap x (Builtin.Range.rangeSize x y 1) a).objs.size))) { s with heap := zpZ s.heap x (Builtin.Range.rangeSize x y 1) a }) :=
  .of_wp fun prog w A R s h => by
    obtain ⟨hp, gg, dd, tk, oo⟩ := s
    obtain ⟨⟨h1, h2⟩, h⟩ := h
    have hsub := sub_zip
    have q1 : ∀ {A' : Around} {E : Value → Shared → Prop} {Q : Value → Shared → Prop}, Q (.ref hp.objs.size) ⟨zpI hp x (Builtin.Range.rangeSize x y 1), gg, dd, tk, oo⟩ → wpAny (model prog w) A' (pyIter (.ref r)) Q E ⟨hp, gg, dd, tk, oo⟩ :=
      fun q => wpAny_pyIter_range h1 sm q
    have q2 : ∀ {A' : Around} {E : Value → Shared → Prop} {Q : Value → Shared → Prop}, Q (.ref a) ⟨zpI hp x (Builtin.Range.rangeSize x y 1), gg, dd, tk, oo⟩ → wpAny (model prog w) A' (pyIter (.ref a)) Q E ⟨zpI hp x (Builtin.Range.rangeSize x y 1), gg, dd, tk, oo⟩ :=
      fun q => wpAny_pyIter_gen (Heap.IsGen.push h2 _) q
    wp_walk using q1, q2
    exact ⟨_, rfl, h⟩
section
variable {prog : Program} {w : World} {A : Around} {E : Value → Shared → Prop} {s : Shared}
theorem call_zipN {r a : Addr} {g : Nat} {x y : Int} {t u v : Tok} {Q : Value → Shared → Prop} (hr : IsRange s.heap r x y 1 t u v) (sm : Builtin.Range.small x y 1 = true) (hg : s.heap.IsGen a g)
    (h : ∀ h' it TI TO z, s.heap.objs.size ≤ it → s.heap.objs.size ≤ TI → s.heap.objs.size ≤ TO → s.heap.objs.size ≤ z → ZApart z TI TO it a → IsZip h' z TI TO .none → IsPair h' TI (.ref it) (.ref a) → IsPair h' TO .none .none → IsRangeIter h' it x (Builtin.Range.rangeSize x y 1) 1 →
      (∀ c o, s.heap.get? c = some o → h'.get? c = some o) → Q (.ref z) { s with heap := h' }) : wpAny (model prog w) A (call (.type "zip") [.ref r, .ref a]) Q E s := by
  refine callType_new F.called_zip (by decide) (F.typeCall_zip_2 _ _) (F.newCall_zip_2 _ _) (fun obj => F.args_object_init_3 obj _ _) F.entry_zip_new (meets_zipN sm) ⟨⟨hr, hg⟩, ?_⟩
  generalize Builtin.Range.rangeSize x y 1 = n at h ⊢
  have s1 : (zpI s.heap x n).objs.size = s.heap.objs.size + 1 := by rw [Heap.size_push]
  have s2 : (zpT s.heap x n a).objs.size = s.heap.objs.size + 2 := by rw [Heap.size_push, s1]
  have s3 : (zpO s.heap x n a).objs.size = s.heap.objs.size + 3 := by rw [Heap.size_push, s2]
  have g4 : (zpZ s.heap x n a).get? (zpO s.heap x n a).objs.size = some { cls := .type "zip", data := .fields #[.none, .bool false, .bool false, .ref (zpI s.heap x n).objs.size, .ref (zpT s.heap x n a).objs.size] } := Heap.get?_push_size _ rfl
  have g3 : (zpZ s.heap x n a).get? (zpT s.heap x n a).objs.size = some { cls := .type "tuple", data := .seq #[.none, .none] } := Heap.get?_push_of_some _ (Heap.get?_push_size _ rfl)
  have g2 : (zpZ s.heap x n a).get? (zpI s.heap x n).objs.size = some { cls := .type "tuple", data := .seq #[.ref s.heap.objs.size, .ref a] } := Heap.get?_push_of_some _ (Heap.get?_push_of_some _ (Heap.get?_push_size _ rfl))
  have g1 : (zpZ s.heap x n a).get? s.heap.objs.size = some { cls := .type "range_iterator", data := .fields #[rawInt x, rawInt n, rawInt 1] } := Heap.get?_push_of_some _ (Heap.get?_push_of_some _ (Heap.get?_push_of_some _ (Heap.get?_push_size _ rfl)))
  refine ⟨⟨_, g4, rfl⟩, h _ s.heap.objs.size (zpI s.heap x n).objs.size (zpT s.heap x n a).objs.size (zpO s.heap x n a).objs.size (Nat.le_refl _) ?_ ?_ ?_ ?_ g4 g2 g3 g1 fun c o e => Heap.get?_push_of_some _ (Heap.get?_push_of_some _ (Heap.get?_push_of_some _ (Heap.get?_push_of_some _ e)))⟩
  · rw [s1]; exact Nat.le_succ _
  · rw [s2]; exact Nat.le_add_right _ _
  · rw [s3]; exact Nat.le_add_right _ _
  · have ne : ∀ {i j : Nat} {p q : Addr}, p = s.heap.objs.size + i → q = s.heap.objs.size + j → i ≠ j → p ≠ q := fun {i j p q} e1 e2 d z => d (Nat.add_left_cancel (show s.heap.objs.size + i = s.heap.objs.size + j by rw [← e1, ← e2, z]))
    exact ⟨ne s1 s3 (by decide), ne s2 s3 (by decide), ne s1 s2 (by decide), ne (j := 0) s1 rfl (by decide), ne (j := 0) s2 rfl (by decide), ne (j := 0) s3 rfl (by decide)⟩
end
end Ap


/-! K18: y = [b for a, b in zip(range(k), o.m(..))]: the generator is left asleep. -/
namespace Ap
open PySem L2 PySem.Spec PyProof.Rows GenW
/-- the guests turn, but for the list at S -/
structure Lat (gs : List Addr) (S : Addr) (s z : Shared) : Prop where
  os : z.os = s.os
  bare : AllBare z.gens
  keep : ∀ b o, b ∉ gs → s.heap.get? b = some o → z.heap.get? b = some o
  live : ∀ b ∈ gs, ∃ o, z.heap.get? b = some o ∧ ∀ v, o.data ≠ .cell v
  same : ∀ o, s.heap.get? S = some o → z.heap.get? S = some o
theorem Nap.lat {gs : List Addr} {S : Addr} {v : Value} {s z t : Shared} (n : Nap gs S v s z) (l : Lat gs S z t) : Nap gs S v s t :=
  ⟨l.os.trans n.os, l.bare, fun b o hb e => l.keep b o hb (n.keep b o hb e), l.live, fun acc c e => by
    obtain ⟨c', e'⟩ := n.own acc c e
    exact ⟨c', l.same _ e'⟩⟩
theorem Lat.trans {gs : List Addr} {S : Addr} {s z t : Shared} (n : Lat gs S s z) (l : Lat gs S z t) : Lat gs S s t :=
  ⟨l.os.trans n.os, l.bare, fun b o hb e => l.keep b o hb (n.keep b o hb e), l.live, fun o e => l.same o (n.same o e)⟩
theorem un_gs {fs gs : List Addr} {H H' : Hp} {h h1 h2 : Heap} (u : Un fs [] H H' h h1) (y : ∀ b ∈ gs, h.objs.size ≤ b) (k : ∀ b o, b ∉ gs → h1.get? b = some o → h2.get? b = some o) : Un fs [] H H' h h2 := by
  have old : ∀ {b : Addr} {o : Obj}, h.get? b = some o → b ∉ gs := fun {b o} e hb => absurd (Nat.lt_of_lt_of_le (Heap.lt_size e) (y b hb)) (Nat.lt_irrefl _)
  refine ⟨fun b o e n f x => k b o (old e) (u.keep b o e n f x), fun b o e n f x => ?_, u.free, fun b o e x => ?_, u.tups, u.frzs, u.tbls⟩
  · obtain ⟨sl, q⟩ := u.slot b o e n f x
    exact ⟨sl, k b _ (old e) q⟩
  · obtain ⟨o', q⟩ := u.there b o e x
    exact ⟨o', k b _ (old e) q⟩
theorem hok_gs {P : Program} {w : World} {gs : List Addr} {H : Hp} {h1 h2 : Heap} (q : HOk P w H h1) (n : ∀ b ∈ gs, H b = none) (k : ∀ b o, b ∉ gs → h1.get? b = some o → h2.get? b = some o) : HOk P w H h2 := fun b u e => by
  have nt : ∀ c z, H c = some z → c ∉ gs := fun c z e hc => by rw [n c hc] at e; cases e
  refine (q b u e).stay (fun c v hc y => k c v ?_ y) (fun _ y => y) fun _ _ y => y
  rcases hc with y | y
  · rw [y]; exact nt b u e
  · exact nt c _ y
/-- i items are out and stand in the list at S -/
structure Asleep (X : Cx) (H1 : Hp) (sc : Shared) (a : Addr) (g : Nat) (gs : List Addr) (S : Addr) (few : Nat) (Y : List V → Hp → Prop) (i : Nat) (s : Shared) : Prop where
  os : s.os = sc.os
  bare : AllBare s.gens
  gen : s.heap.IsGen a g
  mem : ∃ H' ys acc c, Un (frs X.stack) [] H1 H' sc.heap s.heap ∧ HOk X.prog X.w H' s.heap ∧ (∀ b ∈ gs, H' b = none) ∧ s.heap.get? S = some (lstObj acc c) ∧ Vals ys acc.toList ∧ ys.length = i ∧ Y ys H'
  go : ∃ gst, s.gens[g]? = some gst ∧ (i < few → ∀ z, Lat gs S s z → gst.Goes (model X.prog X.w) X.A.in1.in1 NoEnd (NapG X.prog X.w X.stack H1 sc a g gs S few Y) (few - i) (.send .none) z)
section
variable {X : Cx} {H1 : Hp} {sc s z : Shared} {a S : Addr} {g i few : Nat} {gs : List Addr} {Y : List V → Hp → Prop}
theorem Asleep.turn (h : Asleep X H1 sc a g gs S few Y i s) (y : ∀ b ∈ gs, sc.heap.objs.size ≤ b) (ag : a ∉ gs) (l : Lat gs S s z) (e : z.gens = s.gens) : Asleep X H1 sc a g gs S few Y i z := by
  obtain ⟨H', ys, acc, c, m1, m2, m3, m4, m5, m6, m7⟩ := h.mem
  obtain ⟨gst, g1, g2⟩ := h.go
  refine ⟨l.os.trans h.os, l.bare, ?_, ⟨H', ys, acc, c, un_gs m1 y l.keep, hok_gs m2 m3 l.keep, m3, l.same _ m4, m5, m6, m7⟩, ⟨gst, by rw [e]; exact g1, fun lt z' l' => g2 lt z' (l.trans l')⟩⟩
  obtain ⟨o, nm, qn, e1, e2⟩ := h.gen
  exact ⟨o, nm, qn, l.keep a o ag e1, e2⟩
end
/-- a generator expression of such a generator: what it promises -/
abbrev TGn2 := L2.St → Hp → (Nat → (List V → Hp → Prop) → Hp → Prop) → Prop
structure PGenN (X : Cx) (k : Nat) (e : Expr) (tg : TGn2) : Prop where
  run : ∀ (pins : List (Addr × Obj)) (s : Shared) (σ : L2.St) (H : Hp) (R : Nat → (List V → Hp → Prop) → Hp → Prop), Inv X pins σ H s → tg σ H R → wpAny (model X.prog X.w) X.A (eval e X.env)
    (fun u s' => ∃ H1 sc few Y a g c, u = .ref a ∧ Inv X pins σ H1 sc ∧ NMade X.prog X.w k X.stack H1 sc few Y a g c s' ∧ R few Y H1) X.xe s
def tMethN (C : Addr) (m : Str) (sp : SpN) (ta : TE) (t : TA) : TGn2 := fun σ H R => ta σ H fun x H1 => ∃ a dx fs, x = .ref a ∧ H1 a = some (.ins C dx fs) ∧ fs.lookup m = none ∧ t σ H1 fun vs H2 => ∃ few Y, sp (x :: vs) H2 few Y ∧ R few Y H2
theorem pgen_methN {X : Cx} {k : Nat} {C f : Addr} {fd : FuncData} {ps : List Str} {sp : SpN} {o e : Expr} {es : List Expr} {ta : TE} {t : TA} {m : Str} {apos pos : Pos} {pl : Sem Bool} (he : PE X o ta) (c : Cls X.K C) (hm : Meth X.K C m f) (F : NFn X.prog X.w X.K X.mg X.base k f fd ps sp) (hr : Room k X.A) (hb : Binds X.K fd ps []) (ha : PA X (e :: es) t)
    (hst : starEach (e :: es) X.env = (false, eval e X.env) :: starEach es X.env := by rfl) (hpl : (backTo pos (starEach es X.env)).any (·.1) = false := by rfl)
    (ht : eval (.Call (.Attribute o m apos) (e :: es) [] pos) X.env = (do
      let ov ← eval o X.env
      standAt apos.atName
      let (f, first) ← holding [ov] (getMethod ov m pl)
      callWith pos f first (backTo pos (starEach (e :: es) X.env)) (backToKw pos (keywordEach [] X.env))) := by rfl) :
    PGenN X k (.Call (.Attribute o m apos) (e :: es) [] pos) (tMethN C m sp ta t) := by
  refine ⟨fun pins s σ H R I h => PySem.W.methodCall_KW (pl := pl) (thn (he.run pins s σ H _ I h) fun u s1 hh => ?_) ht⟩
  obtain ⟨x, H1, I1, rx, a, dx, fs, rfl, ea, l, q⟩ := hh
  cases rx
  refine getmeth_ok I1 ea c hm l (PySem.W.callWith_K (first := [.ref a]) (h₀ := X.base) I1.ok.mod.kin hm.kp (thn (ha.run pos pins s1 σ H1 _ I1 q) fun us s2 hh => ?_) hst hpl)
  obtain ⟨vs, H2, I2, r, few, Y, hsp, hR⟩ := hh
  have r2 : Vals (.ref a :: vs) (.ref a :: us) := .cons rfl r
  have ln := F.len _ _ _ _ hsp
  refine ⟨I2.kIn, wpAny_call (codeAny_mono (F.run X.A X.stack s2 H2 ⟨.ref a :: us, []⟩ (.ref a :: us) (.ref a :: vs) few Y hr I2.env0 (by simpa using hb s2 (.ref a :: us) I2.kIn (by rw [List.append_nil, ← r2.length]; exact ln)) r2 hsp) fun res s3 hq => ?_)⟩
  obtain ⟨a', g, c', rfl, hM⟩ := hq
  exact ⟨H2, s2, few, Y, a', g, c', rfl, I2, hM, hR⟩
/-- the list of what is out -/
def tZipN (ta : TA) (tg : TGn2) : TE := fun σ H Q => ta σ H fun vs H1 => ∃ k : Nat, vs = [.int k] ∧ k < 1000000 ∧ tg σ H1 fun few Y H2 => few = k ∧ Y [] H2 ∧ ∀ ys H3 p, ys.length = k → Y ys H3 → H3 p = none → Q (.ref p) (upd H3 p (.lst ys))
end Ap


/-! K19: the comprehension over zip(range(k), g). -/
namespace Ap
open PySem L2 PySem.Spec PyProof.Rows GenW
section
variable {X : Cx} {k : Nat} {n1 n2 : Str} {pa pb pe pz pr tpos ppos1 ppos2 : Pos} {kk : Nat} {e1 eg : Expr} {scope : Scope} {pos pos' : Pos} {ta : TA} {tg : TGn2}
theorem lc_zipN {pins : List (Addr × Obj)} {s : Shared} {σ : L2.St} {H : Hp} {Q : VK} {use : Option (Value → Sem Unit)} {Qf : Value → Shared → Prop}
    (hc : X.calm = true) (hr : Room (k + 2) X.A) (I : Inv X pins σ H s) (hgz : Gl X "zip") (hmz : X.mg "zip" = none) (hgr : Gl X "range") (hmr : X.mg "range" = none) (ha : PA X [e1] ta) (heg : PGenN X k eg tg)
    (hk : scope.kind = .function) (hl : ∀ y ∈ scope.names, y.2 = .local ∧ scope.names.lookup y.1 = some .local) (hn1 : scope.names.lookup n1 = some .local) (hn2 : scope.names.lookup n2 = some .local) (hd : (n2 == ("__debug__" : Str)) = false)
    (hs1 : starEach [e1] X.env = [(false, eval e1 X.env)]) (hsz : starEach [.Call (.Name "range" pr) [e1] [] ppos1, eg] X.env = [(false, eval (.Call (.Name "range" pr) [e1] [] ppos1) X.env), (false, eval eg X.env)])
    (hsz2 : starEach [eg] X.env = [(false, eval eg X.env)])
    (hs : ∀ x, foldedSetIterable (.Call (.Name "zip" pz) [.Call (.Name "range" pr) [e1] [] ppos1, eg] [] ppos2) X.env x = pure x) (h : tZipN ta tg σ H Q)
    (hRR : ∀ D C s' m H', Inv X pins σ H' s' → Q (.ref D) H' → s'.heap.Ns C m → FpOk X pins H' C → compPost (model X.prog X.w) X.A X.xe use Qf (.ref D) C (.ok .next) s') :
    wpAny (model X.prog X.w) X.A (comprehension (.ListComp (.Name n2 pe) [⟨.Tuple [.Name n1 pa, .Name n2 pb] kk tpos, .Call (.Name "zip" pz) [.Call (.Name "range" pr) [e1] [] ppos1, eg] [] ppos2, [], 0⟩] scope pos) scope X.env pos' (newList []) false
      (eval (.Call (.Name "zip" pz) [.Call (.Name "range" pr) [e1] [] ppos1, eg] [] ppos2) X.env) use) Qf X.xe s := by
  have hfree : ∀ y ∈ scope.names, y.2 = .free → ∃ c, X.env.cells.lookup y.1 = some c := fun y hy e => by rw [(hl y hy).1] at e; cases e
  refine wpAny_comprehension_free (use := use) rfl hs (closure_ok hfree) hk (fun y hy _ => (hl y hy).2) ?_
  -- zip's arguments
  refine Call_ (ld_blt I hgz hmz PyProof.Rows.boot_zip (PyProof.Rows.callWith_type1 ?_ (by rw [hsz, hsz2]) (by rw [hsz2]; rfl)))
  rw [hsz]
  show wpAny _ _ (spliced ((false, eval (.Call (.Name "range" pr) [e1] [] ppos1) X.env) :: (false, eval eg X.env) :: [])) _ _ s
  refine Calls.spliced_cons (Call_ (ld_blt I hgr hmr boot_range (PyProof.Rows.callWith_type1 (thn (ha.run ppos1 pins s σ H _ I h) fun us s1 hh => ?_) hs1 rfl)))
  obtain ⟨vs, H1, I1, r1, n, rfl, hn, q1⟩ := hh
  cases r1 with
  | cons r1 r2 =>
  cases r2
  obtain ⟨t, rfl⟩ := r1
  refine call_range_1 ?_
  generalize hro : ({ cls := .type "range", data := .fields #[.int 0 s1.toks, .int (n : Int) t, .int 1 (s1.toks + 1)] } : Obj) = ro
  have I2 : Inv X pins σ H1 { s1 with heap := s1.heap.push ro, toks := s1.toks + 1 + 1 } := I1.kept fun b o e => Heap.get?_push_of_some _ e
  have rfresh : H1 s1.heap.objs.size = none := I1.hok.fresh (Nat.le_refl _)
  have rn : s1.heap.objs.size ≠ X.env.locals := Nat.ne_of_gt I1.lt
  have rfs : s1.heap.objs.size ∉ X.fs := I1.nofs (Nat.le_refl _)
  have rat : (s1.heap.push ro).get? s1.heap.objs.size = some ro := Heap.get?_push_size _ (by subst hro; rfl)
  generalize hra : s1.heap.objs.size = r at *
  have I3 : Inv X (pins ++ [(r, ro)]) σ H1 { s1 with heap := s1.heap.push ro, toks := s1.toks + 1 + 1 } := I2.pins_of fun p hp => (List.mem_append.mp hp).elim (fun z => I2.pin p (List.mem_append_right _ z)) fun z => by
    cases List.mem_singleton.mp z
    exact ⟨rat, rfresh, rn, rfs, fun v z => by subst hro; cases z⟩
  refine Calls.spliced_cons (thn (heg.run _ _ σ H1 _ I3 q1) fun u s3 hh => Calls.spliced_nil ?_)
  obtain ⟨H2, sc, few, Y, a, g, c, rfl, J, M, rfl, y0, fin⟩ := hh
  have rsc : sc.heap.get? r = some ro := (J.pin (r, ro) (List.mem_append_right _ (List.mem_append_right _ (List.mem_singleton.mpr rfl)))).1
  have J : Inv X pins σ H2 sc := J.unpinned
  have sz3 : sc.heap.objs.size ≤ s3.heap.objs.size := Nat.le_trans M.lo (Nat.le_of_lt M.hi)
  have sm : Builtin.Range.small 0 (few : Int) 1 = true := small_one (by decide) (by decide) (by omega) (by omega)
  have hrs : Builtin.Range.rangeSize 0 (few : Int) 1 = few := by rw [rangeSize_one]; split <;> omega
  refine call_zipN (t := s1.toks) (u := t) (v := s1.toks + 1) (by subst hro; exact M.keep _ _ rsc) sm M.gen fun h4 it TI TO z lit lTI lTO lz D hz hTI hTO hit k4 => ?_
  rw [hrs] at hit
  refine wpAny_pyIter_zip hz ?_
  refine wpAny_newObj_type (newEnv_comp ?_) (by show 0 ≤ sizeLine; decide)
  -- the new list at L, the names at C
  generalize hL : h4.objs.size = L
  have lt4 : ∀ {b : Addr} {o : Obj}, h4.get? b = some o → b < L := fun e => hL ▸ Heap.lt_size e
  have sz4 : s3.heap.objs.size ≤ L := by
    have := lt4 hz
    exact Nat.le_of_lt (Nat.lt_of_le_of_lt lz this)
  generalize hh5 : h4.push { cls := .type "list", data := .seq ([] : List Value).toArray } = h5
  have k5 : ∀ b o, h4.get? b = some o → h5.get? b = some o := fun b o e => by rw [← hh5]; exact Heap.get?_push_of_some _ e
  have eL : h5.get? L = some (lstObj #[] 0) := by rw [← hh5, ← hL]; exact Heap.get?_push_size _ rfl
  have hC : h5.objs.size = L + 1 := by rw [← hh5, Heap.size_push, hL]
  show codeAny _ _ (.compStart _ 0 (.ref z) (.ref L) (compEnvC scope (cellsFrom (h5.objs.size + 1) scope.names (cloFrom X.env.cells scope.names [])) h5.objs.size X.env)) (compPost (model X.prog X.w) X.A X.xe use Qf (.ref L) h5.objs.size) { s3 with heap := pushCells (h5.push { cls := .type "dict", data := .dict #[] }) scope.names }
  generalize hCC : h5.objs.size = C at *
  generalize hh6 : pushCells (h5.push { cls := .type "dict", data := .dict #[] }) scope.names = h6
  have k6 : ∀ b o, h5.get? b = some o → h6.get? b = some o := fun b o e => by rw [← hh6]; exact pushCells_keeps _ _ _ _ (Heap.get?_push_of_some _ e)
  have nsC : h6.Ns C fun _ => none := by
    rw [← hh6, ← hCC]
    exact Heap.Ns.keeps (Heap.Ns.new ..) fun b o e => pushCells_keeps _ _ _ _ e
  have k46 : ∀ b o, h4.get? b = some o → h6.get? b = some o := fun b o e => k6 b o (k5 b o e)
  generalize hgs : [it, TI, TO, z, L, C] = gs
  have lC : L < C := by rw [hC]; exact Nat.lt_succ_self _
  have mem : ∀ b, b ∈ gs ↔ b = it ∨ b = TI ∨ b = TO ∨ b = z ∨ b = L ∨ b = C := fun b => by rw [← hgs]; simp
  have lo : ∀ b ∈ gs, s3.heap.objs.size ≤ b := fun b hb => by
    rcases (mem b).mp hb with e | e | e | e | e | e <;> rw [e]
    · exact lit
    · exact lTI
    · exact lTO
    · exact lz
    · exact sz4
    · exact Nat.le_trans sz4 (Nat.le_of_lt lC)
  have loc : ∀ b ∈ gs, sc.heap.objs.size ≤ b := fun b hb => Nat.le_trans sz3 (lo b hb)
  have ag : a ∉ gs := fun hb => absurd (Nat.lt_of_lt_of_le M.hi (lo a hb)) (Nat.lt_irrefl _)
  have Lne : ∀ {b : Addr} {o : Obj}, h4.get? b = some o → b ≠ L := fun e => Nat.ne_of_lt (lt4 e)
  have Cne : ∀ {b : Addr} {o : Obj}, h4.get? b = some o → b ≠ C := fun e => Nat.ne_of_lt (Nat.lt_trans (lt4 e) lC)
  have LC : L ≠ C := Nat.ne_of_lt lC
  have nonY : ∀ b ∈ gs, H2 b = none := fun b hb => J.hok.fresh (loc b hb)
  have hh : X.A.handled = none := J.ok.hd hc
  have frA : X.A.in1.in1.frames = some X.stack := J.ok.frames
  -- what stands at a turn
  generalize hce : compEnvC scope (cellsFrom (C + 1) scope.names (cloFrom X.env.cells scope.names [])) C X.env = ce
  have cL : ce.locals = C := by subst hce; rfl
  have ck : ce.scope.kind = .function := by subst hce; exact hk
  have kinds : ∀ y, scope.names.lookup y = some .local → ce.kindOf y = some .local := fun y hy => by subst hce; exact lookup_relabel_local hy
  have hp : (ce.scope.kind == .class || (ce.scope.kind == .module && ce.locals != ce.globals)) = false := by rw [ck]; rfl
  let St : Nat → Shared → Prop := fun i s => Asleep X H2 sc a g gs L few Y i s ∧ IsZip s.heap z TI TO .none ∧ IsPair s.heap TI (.ref it) (.ref a) ∧ (∃ p q, IsPair s.heap TO p q) ∧ IsRangeIter s.heap it (0 + (i : Int)) ((few : Int) - i) 1 ∧ (∃ m, s.heap.Ns C m)
  have liveOf : ∀ {s : Shared} {i : Nat}, St i s → ∀ b ∈ gs, ∃ o, s.heap.get? b = some o ∧ ∀ v, o.data ≠ .cell v := fun {s i} st b hb => by
    obtain ⟨as, s1, s2, ⟨p, q, s3⟩, s4, ⟨m, s5⟩⟩ := st
    obtain ⟨_, _, acc, c, _, _, _, m4, _⟩ := as.mem
    rcases (mem b).mp hb with e | e | e | e | e | e <;> rw [e]
    · exact ⟨_, s4, fun v z => nomatch z⟩
    · exact ⟨_, s2, fun v z => nomatch z⟩
    · exact ⟨_, s3, fun v z => nomatch z⟩
    · exact ⟨_, s1, fun v z => nomatch z⟩
    · exact ⟨_, m4, fun v z => nomatch z⟩
    · obtain ⟨o, es, ep, e1, e2, _⟩ := s5
      exact ⟨_, e1, fun v z => by rw [e2] at z; cases z⟩
  have start : St 0 { s3 with heap := h6 } := by
    have t1 := k46 _ _ hz
    have t2 := k46 _ _ hTI
    have t3 := k46 _ _ hTO
    have t4 := k46 _ _ hit
    have kp : ∀ b o, s3.heap.get? b = some o → h6.get? b = some o := fun b o e => k46 b o (k4 b o e)
    have kq : ∀ b o, sc.heap.get? b = some o → h6.get? b = some o := fun b o e => kp b o (M.keep b o e)
    refine ⟨⟨M.os, M.bare, M.gen.keeps kp, ⟨H2, [], #[], 0, Un.kept kq, J.hok.kept kq, nonY, k6 _ _ eL, .nil, rfl, y0⟩, ⟨_, M.at_, fun lt z' l => ⟨rfl, ?_⟩⟩⟩, t1, t2, ⟨_, _, t3⟩, ?_, ⟨_, nsC⟩⟩
    · refine M.wake lt _ gs L z' hr.in1.in1 frA lo (fun b o e => ?_) l.live ((mem L).mpr (by simp)) ⟨0, l.same _ (k6 _ _ eL)⟩ (l.os.trans M.os) l.bare
      exact l.keep b o (fun hb => absurd (Nat.lt_of_lt_of_le (Heap.lt_size e) (lo b hb)) (Nat.lt_irrefl _)) (kp b o e)
    · have e0 : (0 : Int) + ((0 : Nat) : Int) = 0 := by simp
      have e1 : (few : Int) - ((0 : Nat) : Int) = few := by simp
      rw [e0, e1]
      exact t4
  have loop : codeAny (model X.prog X.w) X.A (.compLoop (.ListComp (.Name n2 pe) [⟨.Tuple [.Name n1 pa, .Name n2 pb] kk tpos, .Call (.Name "zip" pz) [.Call (.Name "range" pr) [e1] [] ppos1, eg] [] ppos2, [], 0⟩] scope pos) 0 (.ref z) (.ref L) ce) (compPost (model X.prog X.w) X.A X.xe use Qf (.ref L) C) { s3 with heap := h6 } := by
    refine compLoop_any (fun m s => ∃ i, i ≤ few ∧ m = few - i ∧ St i s) ?_ few ⟨0, Nat.zero_le _, rfl, start⟩
    rintro m s5 ⟨i, hi, rfl, st⟩
    have lv := liveOf st
    obtain ⟨as, w1, w2, ⟨p0, q0, w3⟩, w4, ⟨mC, w5⟩⟩ := st
    have zit := Ne.symm D.zit
    have zL := Lne hz
    have zC := Cne hz
    have itL := Lne hit
    have itC := Cne hit
    have TIL := Lne hTI
    have TIC := Cne hTI
    have TOL := Lne hTO
    have TOC := Cne hTO
    have nin : ∀ {b : Addr}, b ∉ gs → b ≠ it ∧ b ≠ TI ∧ b ≠ TO ∧ b ≠ z ∧ b ≠ L ∧ b ≠ C := fun {b} hb => by
      refine ⟨?_, ?_, ?_, ?_, ?_, ?_⟩ <;> (intro e; exact hb ((mem b).mpr (by simp [e])))
    have nolim : ∀ {h : Heap} {H' : Hp}, Un (frs X.stack) [] H2 H' sc.heap h → h.NoLimit := fun {h H'} un => by
      refine J.ok.mod.nolimit.keeps fun b o eb => un.keep b o (J.bs b o eb).1 (J.bs b o eb).2 (fun hm => ?_) (by simp)
      rcases List.mem_cons.mp (J.stkSub b hm) with y | y
      · have l1 := Heap.lt_size eb
        have l2 := Nat.le_trans J.ok.bsz J.ok.above
        rw [y] at l1
        exact absurd (Nat.lt_of_lt_of_le l1 l2) (Nat.lt_irrefl _)
      · exact J.ok.nofr eb y
    obtain ⟨H5, ys5, acc5, c5, m1, m2, m3, m4, m5, m6, m7⟩ := as.mem
    by_cases lt : i < few
    · obtain ⟨gst, g1, g2⟩ := as.go
      have glt : g < s5.gens.size := (Array.getElem?_eq_some_iff.mp g1).1
      refine zipN_item D w1 w2 w3 w4 (by omega) fun h2 z2 p2 i2 k2 => ?_
      have k2' : ∀ b o, b ∉ gs → s5.heap.get? b = some o → h2.get? b = some o := fun b o hb e => k2 b o (nin hb).2.2.2.1 (nin hb).2.2.1 (nin hb).1 e
      have lat : Lat gs L s5 (({ s5 with heap := h2, toks := s5.toks + 1 } : Shared).setGen g .running) := by
        refine ⟨rfl, allBare_setGen (s := { s5 with heap := h2, toks := s5.toks + 1 }) as.bare rfl, k2', fun b hb => ?_, fun o e => k2 L o (Ne.symm zL) (Ne.symm TOL) (Ne.symm itL) e⟩
        obtain ⟨o, e1, e2⟩ := lv b hb
        rcases (mem b).mp hb with e | e | e | e | e | e <;> rw [e] at e1 ⊢
        · exact ⟨_, i2, fun v y => nomatch y⟩
        · exact ⟨o, k2 TI o D.TIz D.TITO D.TIit e1, e2⟩
        · exact ⟨_, p2, fun v y => nomatch y⟩
        · exact ⟨_, z2, fun v y => nomatch y⟩
        · exact ⟨o, k2 L o (Ne.symm zL) (Ne.symm TOL) (Ne.symm itL) e1, e2⟩
        · exact ⟨o, k2 C o (Ne.symm zC) (Ne.symm TOC) (Ne.symm itC) e1, e2⟩
      have gen2 : h2.IsGen a g := by
        obtain ⟨o, nm, qn, e1, e2⟩ := as.gen
        exact ⟨o, nm, qn, k2' a o ag e1, e2⟩
      refine wpAny_gsz (n := g + 1) glt (nextOf_gen (s := { s5 with heap := h2, toks := s5.toks + 1 }) (nolim (un_gs m1 loc k2')) (by have := hr.dp; show X.A.depth < _; omega) gen2 g1 (g2 lt _ lat) fun v s6 gs' hb hY hsz6 => ?_)
      obtain ⟨ys, x, H3, hn, rv, os6, bare6, lim6, gen6, un6, hok6, non6, ⟨acc, cc, sS, va⟩, y6, nx⟩ := hY
      have kept6 : ∀ b ∈ gs, ∀ o, h2.get? b = some o → s6.heap.get? b = some o := fun b hb o e => by
        obtain ⟨_, o', e1, e2⟩ := non6 b hb
        have e1 : h2.get? b = some o' := e1
        rw [e] at e1
        cases e1
        exact e2
      have mz : z ∈ gs := (mem z).mpr (by simp)
      have mTO : TO ∈ gs := (mem TO).mpr (by simp)
      have mTI : TI ∈ gs := (mem TI).mpr (by simp)
      have mit : it ∈ gs := (mem it).mpr (by simp)
      have mL : L ∈ gs := (mem L).mpr (by simp)
      have mC' : C ∈ gs := (mem C).mpr (by simp)
      have z6 : IsZip s6.heap z TI TO .ellipsis := kept6 z mz _ z2
      refine ⟨z6, kept6 TO mTO _ p2, fun h7 z7 p7 t7 k7 => ?_⟩
      have gsz : g < s6.gens.size := by
        have := hsz6
        rw [setGen_size] at this
        exact this
      refine wpAny_letOwnedTupleGo_zip z7 fun h8 z8 b8 => ?_
      have zlt : z < s6.heap.objs.size := Heap.lt_size z6
      have t8 : h8.get? s6.heap.objs.size = some { cls := .type "tuple", data := .seq #[.int (0 + (i : Int)) s5.toks, v] } := b8.extBut _ _ (Nat.ne_of_gt zlt) t7
      refine wpAny_assign_Tuple hh ⟨_, t8, rfl, _, rfl⟩ rfl rfl fun h9 b9 => ?_
      have up9 : ∀ b o, h8.get? b = some o → h9.get? b = some o := fun b o e => b9 b o (Nat.ne_of_lt (Heap.lt_size e)) e
      have C9 : ∀ o, s5.heap.get? C = some o → h9.get? C = some o := fun o e =>
        up9 C o (b8.extBut _ _ (Ne.symm zC) (k7 C o (Ne.symm zC) (Ne.symm TOC) (kept6 C mC' o (k2 C o (Ne.symm zC) (Ne.symm TOC) (Ne.symm itC) e))))
      have n9 : h9.Ns ce.locals mC := by rw [cL]; exact w5.at' C9
      show wpAny _ _ (assignInOrder [assign (.Name n1 pa) ce, assign (.Name n2 pb) ce] [.int (0 + (i : Int)) s5.toks, v]) _ _ _
      refine wpAny_assignInOrder_more (wpAny_assign_Name (wpAny_storeName_local (kinds _ hn1) n9 (fun h10 n10 b10 => ?_) hp))
      refine wpAny_assignInOrder_more (wpAny_assign_Name (wpAny_storeName_local (kinds _ hn2) n10 (fun h11 n11 b11 => wpAny_assignInOrder_none ?_) hp))
      refine wpAny_tests_nil ?_
      show wpAny _ _ (eval (.Name n2 pe) ce) _ _ _
      rw [eval_Name _ _ _ hd]
      refine wpAny_bind (wpAny_standAt (wpAny_loadName_local ck (kinds _ hn2) n11 (v := v) (if_pos rfl) ?_))
      have up11 : ∀ b o, b ≠ C → h9.get? b = some o → h11.get? b = some o := fun b o hb e => b11.extBut _ _ (by rw [cL]; exact hb) (b10.extBut _ _ (by rw [cL]; exact hb) e)
      have L6 : s6.heap.get? L = some (lstObj acc cc) := kept6 L mL _ sS
      have e11 : h11.get? L = some (lstObj acc cc) := up11 L _ LC (up9 L _ (b8.extBut _ _ (Ne.symm zL) (k7 L _ (Ne.symm zL) (Ne.symm TOL) L6)))
      have hasz : acc.size = ys.length := by have := va.length; simpa using this.symm
      refine append_at (hsz := by rw [hasz]; exact triv_sz (by omega)) e11 fun h12 b12 e12 => ?_
      have U : ∀ b o, b ≠ z → b ≠ C → b ≠ L → h7.get? b = some o → h12.get? b = some o := fun b o q1 q2 q3 e => b12.extBut _ _ q3 (up11 b o q2 (up9 b o (b8.extBut _ _ q1 e)))
      have V : ∀ b o, b ≠ z → b ≠ TO → b ≠ C → b ≠ L → s6.heap.get? b = some o → h12.get? b = some o := fun b o q1 q2 q3 q4 e => U b o q1 q3 q4 (k7 b o q1 q2 e)
      have keep12 : ∀ b o, b ∉ gs → s6.heap.get? b = some o → h12.get? b = some o := fun b o hb e => V b o (nin hb).2.2.2.1 (nin hb).2.2.1 (nin hb).2.2.2.2.2 (nin hb).2.2.2.2.1 e
      have z12 : IsZip h12 z TI TO .none := b12.extBut _ _ zL (up11 z _ zC (up9 z _ z8))
      have TI12 : IsPair h12 TI (.ref it) (.ref a) := V TI _ D.TIz D.TITO TIC TIL (kept6 TI mTI _ (k2 TI _ D.TIz D.TITO D.TIit w2))
      have TO12 : IsPair h12 TO (.int (0 + (i : Int)) s5.toks) v := U TO _ D.TOz TOC TOL p7
      have it12 : IsRangeIter h12 it (0 + (i : Int) + 1) ((few : Int) - i - 1) 1 := V it _ zit (Ne.symm D.TOit) itC itL (kept6 it mit _ i2)
      have n12 := n11.at' (h' := h12) fun o e => b12.extBut _ _ (by rw [cL]; exact Ne.symm LC) e
      rw [cL] at n12
      have st' : ∀ b ∈ gs, ∃ o, h12.get? b = some o ∧ ∀ v, o.data ≠ .cell v := fun b hb => by
        rcases (mem b).mp hb with e | e | e | e | e | e <;> rw [e]
        · exact ⟨_, it12, fun v y => nomatch y⟩
        · exact ⟨_, TI12, fun v y => nomatch y⟩
        · exact ⟨_, TO12, fun v y => nomatch y⟩
        · exact ⟨_, z12, fun v y => nomatch y⟩
        · exact ⟨_, e12, fun v y => nomatch y⟩
        · obtain ⟨o, es, ep, e1, e2, _⟩ := n12
          exact ⟨_, e1, fun v y => by rw [e2] at y; cases y⟩
      have ylen : ys.length = i := by omega
      refine ⟨few - (i + 1), by omega, i + 1, by omega, rfl, ⟨os6, allBare_setGen bare6 hb, ?_, ⟨H3, ys ++ [x], acc.push v, cc + 1, un_gs un6 loc keep12, hok_gs hok6 (fun b hb => (non6 b hb).1) keep12, fun b hb => (non6 b hb).1, e12, ?_, ?_, y6⟩, ⟨gs', setGen_at gsz, fun lt' z' l' => ?_⟩⟩, z12, TI12, ⟨_, _, TO12⟩, ?_, ⟨_, n12⟩⟩
      · obtain ⟨o, nm, qn, e1, e2⟩ := gen6
        exact ⟨o, nm, qn, keep12 a o ag e1, e2⟩
      · rw [Array.toList_push]
        exact va.append (.cons rv .nil)
      · rw [List.length_append, List.length_singleton, ylen]
      · obtain ⟨m, hm⟩ : ∃ m, few - i = m + 1 := ⟨few - i - 1, by omega⟩
        have nap : Nap gs L v s6 z' := Nap.lat (by
          refine ⟨rfl, allBare_setGen (s := s6) (g := g) bare6 hb, keep12, st', fun acc' c' e => ?_⟩
          rw [L6] at e
          cases e
          exact ⟨_, e12⟩) l'
        have := nx (by omega) z' nap
        rw [hm] at this
        rw [show few - (i + 1) = m by omega]
        exact this
      · have e0 : (0 : Int) + ((i + 1 : Nat) : Int) = 0 + (i : Int) + 1 := by omega
        have e1 : (few : Int) - ((i + 1 : Nat) : Int) = (few : Int) - i - 1 := by omega
        rw [e0, e1]
        exact it12
    · have ei : i = few := by omega
      refine zipN_end hh D w1 w2 w3 w4 (by omega) fun h' k' => ?_
      have kz : ∀ b o, b ∉ gs → s5.heap.get? b = some o → h'.get? b = some o := fun b o hb e => k' b o (nin hb).2.2.2.1 (nin hb).1 e
      have nL := m3 L ((mem L).mpr (by simp))
      have J2 : Inv X pins σ (upd H5 L (.lst ys5)) { s5 with heap := h' } := J.drained (s' := { s5 with heap := h' }) (loc L ((mem L).mpr (by simp))) (triv_sz (by omega)) (k' L _ (Ne.symm zL) (Ne.symm itL) m4) m5 ExOk.nil as.os as.bare (un_gs m1 loc kz) (hok_gs m2 m3 kz) nL
      refine hRR L C { s5 with heap := h' } mC _ J2 (fin ys5 H5 L (by omega) m7 nL) (w5.at' fun o e => k' C o (Ne.symm zC) (Ne.symm itC) e) (J.fpOk (loc C ((mem C).mpr (by simp))) ?_)
      rw [upd_ne (Ne.symm LC)]
      exact m3 C ((mem C).mpr (by simp))
  exact codeAny_compStart_list loop (wpAny_pyIter_zip (k46 _ _ hz) loop)
end
end Ap
namespace Ap
open PySem L2 PySem.Spec PyProof.Rows GenW
section
variable {X : Cx} {k : Nat} {n1 n2 y : Str} {pa pb pe pz pr py tpos ppos1 ppos2 spos : Pos} {kk i : Nat} {e1 eg : Expr} {scope : Scope} {pos : Pos} {ta : TA} {tg : TGn2}
/-- the names of such a comprehension -/
def ownB (scope : Scope) (n1 n2 : Str) : Bool := (match scope.kind with | .function => true | _ => false) && (scope.names.all fun y => decide (y.2 = .local) && decide (scope.names.lookup y.1 = some .local)) && decide (scope.names.lookup n1 = some .local) && decide (scope.names.lookup n2 = some .local)
/-- y = [b for a, b in zip(range(k), g)] -/
theorem ps_setZipN (hc : X.calm = true) (hr : Room (k + 2) X.A) (hN : X.N.Nodup) (hy : X.N[i]? = some y) (hyl : X.env.scope.names.lookup y = some .local) (hgz : Gl X "zip") (hmz : X.mg "zip" = none) (hgr : Gl X "range") (hmr : X.mg "range" = none) (ha : PA X [e1] ta) (heg : PGenN X k eg tg)
    (hsw : swapsWith (.ListComp (.Name n2 pe) [⟨.Tuple [.Name n1 pa, .Name n2 pb] kk tpos, .Call (.Name "zip" pz) [.Call (.Name "range" pr) [e1] [] ppos1, eg] [] ppos2, [], 0⟩] scope pos) (some (.Name y py)) spos.line X.env = pure true)
    (ho : ownB scope n1 n2 = true) (hd : (n2 == ("__debug__" : Str)) = false := by decide)
    (hs1 : starEach [e1] X.env = [(false, eval e1 X.env)] := by rfl) (hsz : starEach [.Call (.Name "range" pr) [e1] [] ppos1, eg] X.env = [(false, eval (.Call (.Name "range" pr) [e1] [] ppos1) X.env), (false, eval eg X.env)] := by rfl)
    (hsz2 : starEach [eg] X.env = [(false, eval eg X.env)] := by rfl)
    (hs : ∀ x, foldedSetIterable (.Call (.Name "zip" pz) [.Call (.Name "range" pr) [e1] [] ppos1, eg] [] ppos2) X.env x = pure x := by intro _; rfl) :
    PS X (.Assign [.Name y py] (.ListComp (.Name n2 pe) [⟨.Tuple [.Name n1 pa, .Name n2 pb] kk tpos, .Call (.Name "zip" pz) [.Call (.Name "range" pr) [e1] [] ppos1, eg] [] ppos2, [], 0⟩] scope pos) spos) (tAsg (tZipN ta tg) (gName i)) := by
  unfold ownB at ho
  simp only [Bool.and_eq_true, List.all_eq_true, decide_eq_true_eq] at ho
  obtain ⟨⟨⟨o1, o2⟩, o3⟩, o4⟩ := ho
  have o1 : scope.kind = .function := by
    split at o1
    · assumption
    · cases o1
  constructor
  intro pins s σ H D I h
  rw [exec_Assign_Name_used _ _ _ _ hsw]
  refine wpAny_bind (wpAny_standAt (wpAny_bind ?_))
  have h : tZipN ta tg σ H (fun x H1 => gName i x σ H1 D.nx) := h
  refine wpAny_bind (thn (lc_zipN (use := some (assign (.Name y py) X.env)) (Qf := fun _ s' => SP X pins D .next s') hc hr I hgz hmz hgr hmr ha heg o1 o2 o3 o4 hd hs1 hsz hsz2 hs h fun L C z m G J q hn f => ?_) fun _ z hq => wpAny_pure (wpAny_pure hq))
  obtain ⟨f0, f1, f2, f3, f4, f5⟩ := f
  show wpAny _ _ (assign (.Name y py) X.env (.ref L)) _ _ _
  refine wpAny_assign_Name (store_ok2 (v := V.ref L) J hN hy (.inl hyl) rfl (fun s2 I2 ⟨a, sb, ha⟩ => ⟨m, hn.sameBut sb ?_, fun h3 sb3 => ⟨_, G, I2.turned (t' := s2.toks) (fun b o hb e => (sb3.2 b hb).trans e) f0 f1 f3 f4 f5, q⟩⟩) (.inr hyl))
  rcases ha with e | e
  · rw [e]; exact f1
  · exact fun e' => f4 y a e e'.symm
end
section
variable {X : Cx} {σ : L2.St} {H : Hp} {Q : VK} {ta : TA} {te : TE} {t : TA} {tg : TGn2} {C a dx : Addr} {fs : List (Str × V)} {m : Str} {sp : SpN} {k few : Nat} {Y : List V → Hp → Prop}
/-- what is asked of the generator -/
abbrev RN := Nat → (List V → Hp → Prop) → Hp → Prop
def rZip (k : Nat) (Q : VK) : RN := fun few Y H2 => few = k ∧ Y [] H2 ∧ ∀ ys H3 p, ys.length = k → Y ys H3 → H3 p = none → Q (.ref p) (upd H3 p (.lst ys))
def kZip (tg : TGn2) (σ : L2.St) (Q : VK) : LK := fun vs H1 => ∃ k : Nat, vs = [.int k] ∧ k < 1000000 ∧ tg σ H1 (rZip k Q)
instance i_zip : St (tZipN ta tg σ H Q) (ta σ H (kZip tg σ Q)) := ⟨id⟩
theorem g_kZip (hk : k < 1000000) (h : tg σ H (rZip k Q)) : kZip tg σ Q [.int k] H := ⟨k, rfl, hk, h⟩
def kMethN (C : Addr) (m : Str) (sp : SpN) (t : TA) (σ : L2.St) (R : RN) : VK := fun x H1 => ∃ a dx fs, x = .ref a ∧ H1 a = some (.ins C dx fs) ∧ fs.lookup m = none ∧ t σ H1 fun vs H2 => ∃ few Y, sp (x :: vs) H2 few Y ∧ R few Y H2
def kArgsN (sp : SpN) (x : V) (R : RN) : LK := fun vs H2 => ∃ few Y, sp (x :: vs) H2 few Y ∧ R few Y H2
instance i_methN {R : RN} : St (tMethN C m sp te t σ H R) (te σ H (kMethN C m sp t σ R)) := ⟨id⟩
theorem g_kMethN {R : RN} (e : H a = some (.ins C dx fs)) (l : fs.lookup m = none) (h : t σ H (kArgsN sp (.ref a) R)) : kMethN C m sp t σ R (.ref a) H := ⟨a, dx, fs, rfl, e, l, h⟩
end
end Ap


/-! K20: steps through a generator's body. -/
namespace Ap
open PySem L2 PySem.Spec PyProof.Rows
section
variable {few : Nat} {Y : List V → Hp → Prop} {t u tb : TNp} {ts : TS} {te : TE} {tc : TT} {D : NEnds} {a b c : List V → L2.St → Hp → Prop} {ys : List V} {σ : L2.St} {H : Hp} {x : V}
instance i_nThen : St (nThen t u D ys σ H) (t ⟨u D, D.bk, D.ct⟩ ys σ H) := ⟨id⟩
instance i_nPlain : St (nPlain ts D ys σ H) (ts ⟨D.nx ys, fun _ _ => False, D.bk ys, D.ct ys⟩ σ H) := ⟨id⟩
instance i_nnx : St (NEnds.nx ⟨a, b, c⟩ ys σ H) (a ys σ H) := ⟨id⟩
def kYld (few : Nat) (Y : List V → Hp → Prop) (D : NEnds) (ys : List V) (σ : L2.St) : VK := fun x H1 => Y (ys ++ [x]) H1 ∧ (ys.length + 1 < few → D.nx (ys ++ [x]) σ H1)
theorem g_nYield (h : ys.length < few) (q : te σ H (kYld few Y D ys σ)) : nYield few Y te D ys σ H := ⟨h, q⟩
def kNwn (Pv : List V → L2.St → Hp → Prop) (μ : List V → L2.St → Hp → Nat) (n : Nat) (tb : TNp) (D : NEnds) (ys : List V) (σ : L2.St) : Hp → Prop := fun H1 =>
  ∃ N : List V → L2.St → Hp → Prop, (∀ ys' σ' H', N ys' σ' H' → ∃ m', m' < n ∧ (m' = μ ys' σ' H' ∧ Pv ys' σ' H')) ∧ tb ⟨N, D.nx, N⟩ ys σ H1
instance i_kNwn {Pv : List V → L2.St → Hp → Prop} {μ : List V → L2.St → Hp → Nat} {n : Nat} : St (kNwn Pv μ n tb D ys σ H) (tb ⟨fun ys' σ' H' => Pv ys' σ' H' ∧ μ ys' σ' H' < n, D.nx, fun ys' σ' H' => Pv ys' σ' H' ∧ μ ys' σ' H' < n⟩ ys σ H) :=
  ⟨fun h => ⟨_, fun _ _ _ q => ⟨_, q.2, rfl, q.1⟩, h⟩⟩
/-- a while, by what holds ahead of its test and a number that falls -/
theorem g_nWhile (Pv : List V → L2.St → Hp → Prop) (μ : List V → L2.St → Hp → Nat) (h0 : Pv ys σ H) (hs : ∀ ys σ H, Pv ys σ H → tc σ H (kIf (kNwn Pv μ (μ ys σ H) tb D ys σ) (D.nx ys σ))) : nWhile tc tb D ys σ H :=
  ⟨fun m ys σ H => m = μ ys σ H ∧ Pv ys σ H, ⟨_, rfl, h0⟩, fun m ys σ H ⟨e, p⟩ => by subst e; exact hs ys σ H p⟩
end
section
variable {t u tb : TGn} {ts : TS} {te : TE} {tc : TT} {D : GEnds} {a c d : List V → L2.St → Hp → Prop} {b : List V → VK} {ys : List V} {σ : L2.St} {H : Hp} {x v : V}
instance i_gThen : St (tGThen t u D ys σ H) (t ⟨u D, D.rt, D.bk, D.ct⟩ ys σ H) := ⟨id⟩
instance i_gPlain : St (tPlain ts D ys σ H) (ts ⟨D.nx ys, D.rt ys, D.bk ys, D.ct ys⟩ σ H) := ⟨id⟩
instance i_gnx : St (GEnds.nx ⟨a, b, c, d⟩ ys σ H) (a ys σ H) := ⟨id⟩
instance i_g0 : St (tG0 D ys σ H) (D.nx ys σ H) := ⟨id⟩
def kGyl (D : GEnds) (ys : List V) (σ : L2.St) : VK := fun x H1 => D.nx (ys ++ [x]) σ H1
instance i_kGyl : St (kGyl D ys σ x H) (D.nx (ys ++ [x]) σ H) := ⟨id⟩
theorem g_gYield (h : ys.length < sizeLine) (q : te σ H (kGyl D ys σ)) : tGYield te D ys σ H := ⟨h, q⟩
def kGwn (Pv : List V → L2.St → Hp → Prop) (μ : List V → L2.St → Hp → Nat) (n : Nat) (tb : TGn) (D : GEnds) (ys : List V) (σ : L2.St) : Hp → Prop := fun H1 =>
  ∃ N : List V → L2.St → Hp → Prop, (∀ ys' σ' H', N ys' σ' H' → ∃ m', m' < n ∧ (m' = μ ys' σ' H' ∧ Pv ys' σ' H')) ∧ tb { D with nx := N, ct := N, bk := D.nx } ys σ H1
instance i_kGwn {Pv : List V → L2.St → Hp → Prop} {μ : List V → L2.St → Hp → Nat} {n : Nat} : St (kGwn Pv μ n tb D ys σ H) (tb ⟨fun ys' σ' H' => Pv ys' σ' H' ∧ μ ys' σ' H' < n, D.rt, D.nx, fun ys' σ' H' => Pv ys' σ' H' ∧ μ ys' σ' H' < n⟩ ys σ H) :=
  ⟨fun h => ⟨_, fun _ _ _ q => ⟨_, q.2, rfl, q.1⟩, h⟩⟩
theorem g_gWhile (Pv : List V → L2.St → Hp → Prop) (μ : List V → L2.St → Hp → Nat) (h0 : Pv ys σ H) (hs : ∀ ys σ H, Pv ys σ H → tc σ H (kIf (kGwn Pv μ (μ ys σ H) tb D ys σ) (D.nx ys σ))) : tGWhile tc tb D ys σ H :=
  ⟨fun m ys σ H => m = μ ys σ H ∧ Pv ys σ H, ⟨_, rfl, h0⟩, fun m ys σ H ⟨e, p⟩ => by subst e; exact hs ys σ H p⟩
instance i_listG {tg : TGen} {Q : VK} : St (tListG tg σ H Q) (tg σ H fun out H2 => ∀ p, H2 p = none → Q (.ref p) (upd H2 p (.lst out))) := ⟨id⟩
abbrev RG := List V → Hp → Prop
def kMethG (m : Str) (C : Addr) (sp : SpG) (dvs : List V) (E : XK) (t : TA) (σ : L2.St) (R : RG) : VK := fun x H1 => ∃ a dx fs, x = .ref a ∧ H1 a = some (.ins C dx fs) ∧ fs.lookup m = none ∧ t σ H1 fun vs H2 => sp (x :: (vs ++ dvs)) H2 R E
def kArgsG (sp : SpG) (x : V) (dvs : List V) (E : XK) (R : RG) : LK := fun vs H2 => sp (x :: (vs ++ dvs)) H2 R E
instance i_methG {C : Addr} {m : Str} {sp : SpG} {dvs : List V} {E : XK} {t : TA} {R : RG} : St (tMethG C m sp dvs E te t σ H R) (te σ H (kMethG m C sp dvs E t σ R)) := ⟨id⟩
theorem g_kMethG {C a dx : Addr} {fs : List (Str × V)} {m : Str} {sp : SpG} {dvs : List V} {E : XK} {t : TA} {R : RG} (e : H a = some (.ins C dx fs)) (l : fs.lookup m = none) (h : t σ H (kArgsG sp (.ref a) dvs E R)) : kMethG m C sp dvs E t σ R (.ref a) H := ⟨a, dx, fs, rfl, e, l, h⟩
def kMethGK (m : Str) (C : Addr) (sp : SpG) (E : XK) (t : TA) (σ : L2.St) (R : RG) : VK := fun x H1 => ∃ a dx fs, x = .ref a ∧ H1 a = some (.ins C dx fs) ∧ fs.lookup m = none ∧ t σ H1 fun zs H2 => ∃ z, zs = [z] ∧ sp [x, z] H2 R E
def kArgGK (sp : SpG) (x : V) (E : XK) (R : RG) : LK := fun zs H2 => ∃ z, zs = [z] ∧ sp [x, z] H2 R E
instance i_methGK {C : Addr} {m : Str} {sp : SpG} {E : XK} {t : TA} {R : RG} : St (tMethGK C m sp E te t σ H R) (te σ H (kMethGK m C sp E t σ R)) := ⟨id⟩
theorem g_kMethGK {C a dx : Addr} {fs : List (Str × V)} {m : Str} {sp : SpG} {E : XK} {t : TA} {R : RG} (e : H a = some (.ins C dx fs)) (l : fs.lookup m = none) (h : t σ H (kArgGK sp (.ref a) E R)) : kMethGK m C sp E t σ R (.ref a) H := ⟨a, dx, fs, rfl, e, l, h⟩
end
theorem nostop0 {K : PySem.W.Frag} : NoStop K E0 := fun _ _ _ z => z.elim
theorem gfnK_of {P : Program} {w : World} {K : PySem.W.Frag} {mg : Str → Option Value} {base : Heap} {k : Nat} {f : Addr} {fd : FuncData} {ps : List Str} {sp : SpG} {x qual : Str} {st : Stmt} {N : List Str} (F : Fun K x qual st f fd) (S : GScope N ps (defScope st)) (len : ∀ vs H Q E, sp vs H Q E → vs.length = ps.length)
    (body : ∀ (cdv : Value) (A : Around) (outer : List Env) (s : Shared) (H : Hp) (vs : List V) (Q : List V → Hp → Prop) (E : XK) (pn : List (Addr × Obj)), fd.code = cdv → Room k (A.deeper (envOfC qual (defScope st) s.heap.objs.size f cdv)) → sp vs H Q E →
      ∃ t, GSs (gcxOf P w K mg base N qual (defScope st) f cdv A outer s H E pn) (defBody st) t ∧ t { nx := fun ys _ H' => Q ys H', rt := fun ys v H' => v = .non ∧ Q ys H' } [] (start N vs) H) :
    GFn P w K mg base (k + 1) f fd ps sp := by
  obtain ⟨oc, od, kV, doc, pm, an, cdv, ct, osl, rfl, lk, hcd⟩ := F.ex
  exact gfn_of lk hcd S len fun A outer s H vs Q E pn hr h => body cdv A outer s H vs Q E pn rfl hr h
end Ap


/-! K24: promises joined. -/
namespace Ap
open PySem L2 PySem.Spec PyProof.Rows
section
variable {P : Program} {w : World} {K : PySem.W.Frag} {mg : Str → Option Value} {base : Heap} {k : Nat} {f : Addr} {fd : FuncData} {ps : List Str} {sp sp' : Sp}
/-- one or the other -/
def orS (a b : Sp) : Sp := fun vs H Q E => a vs H Q E ∨ b vs H Q E
theorem FnOk.or {CX : CXT} (F : FnOk P w K mg base CX k f fd ps sp) (G : FnOk P w K mg base CX k f fd ps sp') : FnOk P w K mg base CX k f fd ps (orS sp sp') :=
  ⟨fun vs H Q E h => h.elim (F.len vs H Q E) (G.len vs H Q E), fun A outer s H args us vs Q E hr he hb hv h => h.elim (F.run A outer s H args us vs Q E hr he hb hv) (G.run A outer s H args us vs Q E hr he hb hv)⟩
/-- what never raises, among those that may -/
theorem FnOk.may {CX : CXT} (F : FnOk P w K mg base CX0 k f fd ps sp) : FnOk P w K mg base CX k f fd ps sp :=
  ⟨F.len, fun A outer s H args us vs Q E hr he hb hv h => codeAny_mono (F.run A outer s H args us vs Q E hr he hb hv h) fun r s' hr' => by
    cases r with
    | ok fl => cases fl <;> exact hr'
    | error e => exact (show False from hr').elim⟩
end
def kSX (sp : Sp) (E : XK) (Q : VK) : LK := fun vs H1 => sp vs H1 Q E
instance i_callS {sp : Sp} {E : L2.St → XK} {ta : TA} {σ : L2.St} {H : Hp} {Q : VK} : St (tCallS sp E ta σ H Q) (ta σ H (kSX sp (E σ) Q)) := ⟨id⟩
end Ap


/-! K26: a lambda without parameters handed to a def of the law's: its table is kept by name. -/
namespace Ap
open PySem L2 PySem.Spec PySem.Calls PyProof.Rows
section
variable {X : Cx} {pins : List (Addr × Obj)} {σ : L2.St} {H : Hp} {s : Shared}
/-- the lambda is made; all that is known stays -/
theorem lam_mk {c p : Addr} {q : Str} {ags : Arguments} {e : Expr} {sl : Scope} {pos : Pos} {E Q : Value → Shared → Prop} (I : Inv X pins σ H s) (tb : GxR.TabB X.base X.mg c p) (hc : X.env.code = .ref c) (hq : X.env.qual ++ "<lambda>" = q) (lt : lamT p = some q)
    (hT : LamX.TabS H p q) (hd : defaultsOf ags X.env = ([], [])) (hf : ∀ y ∈ sl.names, y.2 = .free → ∃ a, X.env.cells.lookup y.1 = some a)
    (h : ∀ (f d : Addr) (pm ct : Value) (H1 : Hp) (t : Shared), Inv X pins σ H1 t → Kp [] H H1 → t.heap.get? f = some (PySem.W.kla_obj "<lambda>" q ags e sl (cloFrom X.env.cells sl.names []) pm d ct) → H1 f = none → f ∉ frs X.stack →
      H1 d = some (LamX.CodeO d q) → Q (.ref f) t) :
    wpAny (model X.prog X.w) X.A (eval (.Lambda ags e sl pos) X.env) Q E s := by
  subst hq
  obtain ⟨ps, hP, tr, nm⟩ := id hT
  have hP2 : s.heap.get? p = some { cls := .none, data := .fields ps } := I.hok p _ hP
  have off : ∀ f, s.heap.objs.size ≤ f → f ∉ frs X.stack := by
    intro f le mem
    cases List.mem_cons.mp (I.stkSub _ mem) with
    | inl z => exact absurd (z ▸ I.lt) (Nat.not_lt.mpr le)
    | inr z => exact I.nofs le z
  apply PySem.W.kla_eval hd
  cases old : codeAmong pos ps.toList with
  | some cv =>
    obtain ⟨d, rfl, hco⟩ := nm pos cv old
    apply PySem.W.kla_makeFunctionHit (mg := X.mg) (c := c) (P := p) (ps := ps) (closure_ok hf) I.ok.glob (I.mod.glob.keeps I.bk) hc (tb.code.keeps I.bk) hP2 tr old (tb.bm.keeps I.bk)
    intro ct h2 tk kx sz
    exact h h2.objs.size d _ ct H _ (I.kept fun b o z => Heap.get?_push_of_some _ (kx b o z)) (Kp.refl _ _) (Heap.get?_push_size _ rfl) (I.hok.fresh sz) (off _ sz) hco
  | none =>
    apply PySem.W.kla_makeFunction (mg := X.mg) (c := c) (P := p) (ps := ps) (closure_ok hf) I.ok.glob (I.mod.glob.keeps I.bk) hc (tb.code.keeps I.bk) hP2 tr old tb.gP (tb.bm.keeps I.bk)
    intro d ct h2 tk kx ge lt2 rec2 tab2
    obtain ⟨_, oc, vs, t, ed, ho, e1, e2⟩ := rec2
    cases ed
    have sz : s.heap.objs.size ≤ h2.objs.size := Nat.le_trans ge (Nat.le_of_lt lt2)
    have nd : H d = none := I.hok.fresh ge
    have pd : p ≠ d := ne_of_none hP nd
    generalize hp2 : ps ++ #[rawInt pos.line, rawInt pos.col, .ref d] = ps2 at tab2
    have el : ps2.toList = ps.toList ++ [rawInt pos.line, rawInt pos.col, .ref d] := by rw [← hp2]; simp
    have J := LamX.inv_table (t' := tk) (c := d) (q := X.env.qual ++ "<lambda>") (more := #[rawInt pos.line, rawInt pos.col, .ref d]) (h' := h2.push (PySem.W.kla_obj "<lambda>" (X.env.qual ++ "<lambda>") ags e sl (cloFrom X.env.cells sl.names []) ((X.mg "__name__").getD .none) d ct)) I hP
      (fun b o hb z => Heap.get?_push_of_some _ (kx b o hb z)) (by rw [hp2]; exact Heap.get?_push_of_some _ tab2) ge ⟨oc, vs, t, Heap.get?_push_of_some _ ho, e1, e2⟩
    rw [hp2] at J
    generalize hG : upd (upd H p (.tbl ps2)) d (LamX.CodeO d (X.env.qual ++ "<lambda>")) = G at J
    have gd : G d = some (LamX.CodeO d (X.env.qual ++ "<lambda>")) := by rw [← hG]; exact upd_same
    have gp : G p = some (.tbl ps2) := by rw [← hG, upd_ne pd, upd_same]
    have gk : ∀ b o, H b = some o → b ≠ p → G b = some o := fun b o z n => by rw [← hG, upd_ne (ne_of_none z nd), upd_ne n]; exact z
    have tr2 : TriplesOk ps2.toList := by rw [el]; exact PySem.TriplesOk_snoc _ _ _ _ tr
    have cg : ∀ c2 q2, H c2 = some (LamX.CodeO c2 q2) → G c2 = some (LamX.CodeO c2 q2) := fun c2 q2 z => gk c2 _ z fun y => by
      rw [y, hP] at z
      exact LamX.codeO_ne ps (Option.some.inj z).symm
    have KG : Kp [] H G := by
      refine ⟨fun b o _ z n => gk b o z fun y => n ps (by rw [y, hP] at z; exact (Option.some.inj z).symm), fun b qs z tq => ?_, fun b o z => ?_, fun b q2 l ht => ?_⟩
      · by_cases y : b = p
        · exact ⟨ps2, by rw [y]; exact gp, tr2⟩
        · exact ⟨qs, gk b _ z y, tq⟩
      · by_cases y : b = p
        · exact ⟨_, by rw [y]; exact gp⟩
        · exact ⟨o, gk b o z y⟩
      · obtain ⟨qs, q3, q4, q5⟩ := ht
        by_cases y : b = p
        · subst y
          rw [lt] at l
          cases l
          rw [hP] at q3
          cases q3
          refine ⟨ps2, gp, tr2, fun p' cv hv => ?_⟩
          rw [el] at hv
          rcases LamX.among_app _ tr hv with z | z
          · obtain ⟨c2, z1, z2⟩ := q5 p' cv z
            exact ⟨c2, z1, cg _ _ z2⟩
          · exact ⟨d, z, gd⟩
        · refine ⟨qs, gk b _ q3 y, q4, fun p' cv hv => ?_⟩
          obtain ⟨c2, z1, z2⟩ := q5 p' cv hv
          exact ⟨c2, z1, cg _ _ z2⟩
    refine h h2.objs.size d _ ct G _ J KG (Heap.get?_push_size _ rfl) ?_ (off _ sz) gd
    have n1 : h2.objs.size ≠ d := Nat.ne_of_gt lt2
    have n2 : h2.objs.size ≠ p := Nat.ne_of_gt (Nat.lt_of_lt_of_le (Heap.lt_size hP2) sz)
    rw [← hG, upd_ne n1, upd_ne n2]
    exact I.hok.fresh sz
end
/-- a def of the law's that calls what it gets: TT is what it makes of the reading of that -/
structure Giv (P : Program) (w : World) (K : PySem.W.Frag) (mg : Str → Option Value) (base : Heap) (k : Nat) (x a : Str) (st : Stmt) (N : List Str) (g : Addr) (cdv : Value) (TT : (XK → Hp → VK → Prop) → Hp → VK → Prop) : Prop where
  go : ∀ (B : Around) (outs : List Env) (s : Shared) (H : Hp) (Q : VK) (tl : XK → Hp → VK → Prop) (f d : Addr) (q : Str), B.guards = some [] → Room k (B.deeper (envOfC x (defScope st) s.heap.objs.size g cdv)) →
    (∀ (W : WX) (pn : List (Addr × Obj)) (xe : Value → Shared → Prop) (E : XK) (p1 p2 : Pos), Takes ((cxOf CX0 P w K mg base N x (defScope st) g cdv B outs s H C8.E0).tr pn xe) W → (∀ cls d σ' H', E cls d H' → W cls d σ' H') →
      PE ((cxOf CX0 P w K mg base N x (defScope st) g cdv B outs s H C8.E0).tr pn xe) (.Call (.Name a p1) [] [] p2) (fun σZ HZ Q => σZ[0]? = some (some (.ref f)) ∧ HZ d = some (LamX.CodeO d q) ∧ tl E HZ Q)) →
    H d = some (LamX.CodeO d q) → TT tl H Q →
    ∃ t, PSs (cxOf CX0 P w K mg base N x (defScope st) g cdv B outs s H C8.E0).nox (defBody st) t ∧ t ⟨fun _ H' => Q .non H', Q, fun _ _ => False, fun _ _ => False⟩ (L2.start N [.ref f]) H
def tLamK (p : Addr) (q : Str) (TT : (XK → Hp → VK → Prop) → Hp → VK → Prop) (t : XK → TE) : TE := fun σ H Q => LamX.TabS H p q ∧ ∀ H1, Kp [] H H1 → TT (fun E H' Q' => t E σ H' Q') H1 Q
section
variable {X : Cx}
/-- x(lambda: e) -/
theorem pe_lamK {x a q : Str} {g c p : Addr} {k : Nat} {st : Stmt} {fd : FuncData} {N : List Str} {TT : (XK → Hp → VK → Prop) → Hp → VK → Prop} {ags : Arguments} {e : Expr} {sl : Scope} {t : XK → TE} {p1 lpos pos : Pos}
    (gv : Giv X.prog X.w X.K X.mg X.base k x a st N g fd.code TT) (F : Fun X.K x x st g fd) (sg : FnScope N [a] (defScope st)) (hN : N[0]? = some a) (hva : Vis (defScope st) a) (hb : L2.Binds X.K fd [a] []) (hg : Gl X x) (hm : X.mg x = some (.ref g)) (gd : X.A.guards = some [])
    (tb : GxR.TabB X.base X.mg c p) (hc : X.env.code = .ref c) (lt : lamT p = some q) (hq : X.env.qual ++ "<lambda>" = q) (hr : Room (k + 2) X.A) (L : LamX.LamS X.env.scope sl) (hd : defaultsOf ags X.env = ([], []))
    (hbd : ∀ (q : Str) (cl : List (Str × Addr)) (pm cv ct : Value), bindArgs (PySem.W.kla_fn "<lambda>" q ags e sl cl pm cv ct) ⟨[], []⟩ = pure [])
    (he : ∀ (A : Around) (outer : List Env) (s : Shared) (H : Hp) (E : XK) (f d : Addr), Room k (A.deeper (LamX.lamEnv X sl s.heap.objs.size f d)) → PE (LamX.lamCx X A outer s H E sl f d) e (t E))
    (h1 : (x == ("__debug__" : Str)) = false := by decide) (h2 : (a == ("__debug__" : Str)) = false := by decide) (h3 : (a == ("__classdict__" : Str)) = false := by decide) :
    PE X (.Call (.Name x p1) [.Lambda ags e sl lpos] [] pos) (tLamK p q TT t) := by
  constructor
  rintro pins s σ H Q I ⟨hT, want⟩
  obtain ⟨oc, od, kV, doc, pm, an, cdv, ct, osl, rfl, lk, hcd⟩ := F.ex
  apply wpAny_Call_Name_kw
  refine ld_glob I hg hm (PySem.W.callWith_K (h₀ := X.base) I.ok.mod.kin F.kp ?_ (by rfl) (by rfl)) h1
  show wpAny _ _ (spliced ((false, eval (.Lambda ags e sl lpos) X.env) :: backTo pos (starEach [] X.env))) _ _ s
  refine Calls.spliced_cons (lam_mk I tb hc hq lt hT hd (L.has I.ok) fun f d pm2 ct2 H1 t1 J kp1 hf fn nfr hco => Calls.spliced_nil ⟨J.kIn, ?_⟩)
  subst hq
  have called : codeAny (model X.prog X.w) X.A (.call (.ref g) ⟨[.ref f], []⟩) (CR CX0 X.stack X.prog X.w H1 t1 Q C8.E0) t1 := by
    refine LamX.run_ofS (N := N) (ps := [a]) (us := [.ref f]) (vs := [.ref f]) lk hcd sg hr J.env0 (hb t1 [.ref f] J.kIn rfl) (.cons rfl .nil) rfl fun rm => ?_
    obtain ⟨tt, ps, hs⟩ := gv.go X.A X.stack t1 H1 Q (fun E H' Q' => t E σ H' Q') f d _ gd (rm.mono (by omega))
      (fun W pn xe E p2 p3 tk hW => LamX.pe_act (i := 0) J L hf fn nfr (hbd _ _ _ _ _) tk hW rm (fun A outer s H r2 => he A outer s H E f d (r2.mono (by omega))) hN hva h2 h3) hco (want H1 kp1)
    exact ⟨tt, ps.nox, hs⟩
  refine wpAny_call (codeAny_mono called fun r s2 hq => ?_)
  match r, hq with
  | .error _, hq => exact False.elim hq
  | .ok (.ret _), hq => exact J.after hq
  | .ok .next, hq => exact False.elim hq
  | .ok .brk, hq => exact False.elim hq
  | .ok .cont, hq => exact False.elim hq
/-- what a lambda's body lets out is taken -/
theorem pass_lam {A : Around} {outer : List Env} {s : Shared} {H : Hp} {E : XK} {sl : Scope} {f d : Addr} : Passes (L2.CX X.prog X.w) (LamX.lamCx X A outer s H E sl f d) E :=
  passes_call (takes_of rfl rfl rfl rfl) fun _ _ _ _ h => h
/-- what a clause wishes may lean on the number of slots -/
theorem takes_len {W : WX} (tk : Takes X W) : Takes X (fun cls d σ H => σ.length = X.N.length → W cls d σ H) := fun u s' x => by
  obtain ⟨a, B, sI, pins', σ1, H1, cls, d, rfl, J, nb, up, sky, na, os, ag, want⟩ := x
  exact tk _ _ ⟨a, B, sI, pins', σ1, H1, cls, d, rfl, J, nb, up, sky, na, os, ag, want J.len⟩
end
end Ap
namespace Ap
open PySem L2 PySem.Spec PySem.Calls PyProof.Rows
theorem len4 {α : Type} {l : List α} (h : l.length = 4) : ∃ a b c d, l = [a, b, c, d] := by
  match l, h with
  | [a, b, c, d], _ => exact ⟨a, b, c, d, rfl⟩
section
variable {K : PySem.W.Frag} {t c : Value} {b : Bool}
/-- a clause's test of another class -/
theorem exm_no (h : PySem.W.kitOne K t c = some false) (s : PySem.W.subIn K c (.type "BaseException") = some true) : PySem.W.exmOne K t c = some false := by
  unfold PySem.W.kitOne at h
  split at h
  · cases h
  · unfold PySem.W.exmOne
    rw [if_pos (by rw [s]; rfl)]
    exact h
theorem exm3 {c1 c2 c3 : Value} {b1 b2 b3 : Bool} (h1 : PySem.W.exmOne K t c1 = some b1) (h2 : PySem.W.exmOne K t c2 = some b2) (h3 : PySem.W.exmOne K t c3 = some b3) : PySem.W.exmAny K t [c1, c2, c3] = some (b1 || (b2 || (b3 || false))) := by
  simp only [PySem.W.exmAny, h1, h2, h3]
end
section
variable {K : PySem.W.Frag} {D : Ends} {i : Nat} {l : List ((Value → Option Bool) × (Addr → Value → Option Addr → TS))} {f : Value → Option Bool} {ts : Addr → Value → Option Addr → TS} {cls : Value} {d : Option Addr} {σ : L2.St} {H : Hp}
theorem g_wYes (h : f cls = some true) (k : ∀ a, H a = none → ts a cls d ⟨fun σ' H' => D.nx (σ'.set i none) (upd H' a (exA a cls d)), fun _ _ => False, fun _ _ => False, fun _ _ => False⟩ (σ.set i (some (.ref a))) H) : wA i D ((f, ts) :: l) cls d σ H :=
  ⟨true, h, fun _ => k, fun z => nomatch z⟩
theorem g_wNo (h : f cls = some false) (k : wA i D l cls d σ H) : wA i D ((f, ts) :: l) cls d σ H := ⟨false, h, (fun z => nomatch z), fun _ => k⟩
end
section
variable {K : PySem.W.Frag} {te : TE} {σ : L2.St} {H : Hp} {Q : VK} {f : Str}
def kXk (K : PySem.W.Frag) (f : Str) (Q : VK) : VK := fun x H1 => ∃ (a C dd : Addr) (fs : List (Str × V)) (v : V), x = .ref a ∧ H1 a = some (exA a (.ref C) (some dd)) ∧ XfC K C ∧ PySem.W.findIn K (.ref C) f = some none ∧ H1 dd = some (.xd fs) ∧ fs.lookup f = some v ∧ Q v H1
instance i_xk : St (tXk K f te σ H Q) (te σ H (kXk K f Q)) := ⟨id⟩
theorem g_xk {a C dd : Addr} {fs : List (Str × V)} {v : V} (h1 : H a = some (exA a (.ref C) (some dd))) (h2 : ExcC K C) (h3 : PySem.W.findIn K (.ref C) f = some none) (h4 : H dd = some (.xd fs)) (h5 : fs.lookup f = some v) (h : Q v H) : kXk K f Q (.ref a) H :=
  ⟨a, C, dd, fs, v, rfl, h1, ⟨h2.hg, h2.hk, h2.hs, h2.hd⟩, h3, h4, h5, h⟩
end
/-- what leaves a lambda's generator -/
theorem pass_lamN {X : Cx} {A : Around} {outer : List Env} {s : Shared} {H : Hp} {E : XK} {sl : Scope} {f d : Addr} {N : Value} : Passes (L2.CX (LamX.lamCx X A outer s H E sl f d).prog (LamX.lamCx X A outer s H E sl f d).w) (LamX.lamCx X A outer s H E sl f d) (fun cls d H => cls = N ∧ E cls d H) :=
  passes_call (takes_of rfl rfl rfl rfl) fun _ _ _ _ h => h.2
theorem ns_lam {K : PySem.W.Frag} {N : Addr} {E : XK} (h : PySem.W.subIn K (.ref N) (.type "StopIteration") = some false) : NoStop K (fun cls d H => cls = .ref N ∧ E cls d H) := fun _ _ _ q => by rw [q.1]; exact h
end Ap


/-! K27: repr([text, thing]), the thing plain data or an empty dict. -/
namespace Ap
open PySem L2 PySem.Spec PyProof.Rows
theorem Kp.rdt {S : List Addr} {K : PySem.W.Frag} {H H' : Hp} (k : Kp S H H') {p : Addr} {xs : List V} (n : p ∉ S) (h : SqT K H p xs) : SqT K H' p xs := by
  rcases h with (h | ⟨o, h⟩) | h
  · exact .inl (.inl (k.tup n h))
  · exact .inl (.inr ⟨o, k.frz n h⟩)
  · exact .inr h
mutual
theorem Dp.kp {K : PySem.W.Frag} {H H' : Hp} (k : Kp [] H H') : ∀ {d : PyData} {v : V}, Dp K H v d → Dp K H' v d
  | _, _, .non => .non
  | _, _, .bl b => .bl b
  | _, _, .int i => .int i
  | _, _, .str x => .str x
  | _, _, .lst h a => .lst (k.rdl nin0 h) (DpAll.kp k a)
  | _, _, .tup h a => .tup (k.rdt nin0 h) (DpAll.kp k a)
theorem DpAll.kp {K : PySem.W.Frag} {H H' : Hp} (k : Kp [] H H') : ∀ {ds : List PyData} {vs : List V}, DpAll K H vs ds → DpAll K H' vs ds
  | _, _, .nil => .nil
  | _, _, .cons h t => .cons (Dp.kp k h) (DpAll.kp k t)
end
def DpE (K : PySem.W.Frag) (H : Hp) (v : V) (d : PyData) : Prop := Dp K H v d ∨ ∃ b, v = .ref b ∧ H b = some (.dK []) ∧ d = .dict []
def kRepr2 (K : PySem.W.Frag) (Q : VK) : List V → Hp → Prop := fun vs H1 => ∃ (x : Str) (y : V) (d : PyData) (b e : Nat), vs = [.str x, y] ∧ DpE K H1 y d ∧ Shw (.list [.str x, d]) b e ∧ b ≤ 1000000 ∧ e < 60 ∧ ∀ H2, Kp [] H1 H2 → Q (.str (PyData.list [.str x, d]).shown) H2
def tRepr2 (K : PySem.W.Frag) (ta : TA) : TE := fun σ H Q => ta σ H (kRepr2 K Q)
instance i_repr2 {K : PySem.W.Frag} {ta : TA} {σ : L2.St} {H : Hp} {Q : VK} : St (tRepr2 K ta σ H Q) (ta σ H (kRepr2 K Q)) := ⟨id⟩
theorem g_r2 {K : PySem.W.Frag} {H : Hp} {Q : VK} {x : Str} {y : V} {d : PyData} {b e : Nat} (hd : DpE K H y d) (s : Shw (.list [.str x, d]) b e) (hb : b ≤ 1000000) (he : e < 60) (h : ∀ H2, Kp [] H H2 → Q (.str (PyData.list [.str x, d]).shown) H2) : kRepr2 K Q [.str x, y] H :=
  ⟨x, y, d, b, e, rfl, hd, s, hb, he, h⟩
section
variable {X : Cx} {k : Nat}
theorem dk_nil {P : Program} {w : World} {H : Hp} {h : Heap} {b : Addr} (ok : HOk P w H h) (e : H b = some (.dK [])) : (b == sysModules) = false ∧ Reads h (.ref b) (.dict []) [b] := by
  obtain ⟨_, ne, vs, rel, o, es, ep, h1, h2, h3, _, h5, _⟩ := dk_of ok e
  refine ⟨ne, ?_⟩
  have ev : vs = [] := by
    cases rel
    rfl
  subst ev
  have el : es.toList = [] := by
    generalize es.toList = l at h5
    cases h5
    rfl
  have r := Reads.dict (h := h) (a := b) (o := o) (es := es) (n := ep) (kvs := []) (as := []) (bs := []) h1 (by first | exact h2.1 | exact h2.cls | exact h2) h3 (by rw [el]; exact .nil) (by rw [el]; exact .nil)
  exact r
theorem pe_repr2 {e1 e2 : Expr} {ta : TA} {p lpos pos : Pos} (hr : Room k X.A) (gd : X.A.guards = some []) (hg : Gl X "repr") (hm : X.mg "repr" = none) (ha : PA X [e1, e2] ta)
    (he : starEach [.List [e1, e2] lpos] X.env = (false, eval (.List [e1, e2] lpos) X.env) :: starEach [] X.env := by rfl) : PE X (.Call (.Name "repr" p) [.List [e1, e2] lpos] [] pos) (tRepr2 X.K ta) := by
  refine ⟨fun pins s σ H Q I hq => ?_⟩
  refine wpAny_Call_Name_kw (ld_blt I hg hm (by rfl : bootBuiltins "repr" = some (.builtin "repr")) (PyProof.Rows.callWith_builtin1 ?_ he rfl) (by decide) (by decide))
  rw [he]
  show wpAny _ _ (spliced ((false, eval (.List [e1, e2] lpos) X.env) :: backTo pos (starEach [] X.env))) _ _ s
  refine Calls.spliced_cons (wpAny_List_spliced (thn (ha.run lpos pins s σ H _ I hq) fun us s1 hh => ?_))
  obtain ⟨vs, H1, I1, r, x, y, d, b, e, rfl, hd, sh, hb, hee, q⟩ := hh
  have ln := r.length
  refine ⟨by rw [← ln]; exact triv_sz (show 2 ≤ 1000000 by decide), Calls.spliced_nil ?_⟩
  have hf : H1 s1.heap.objs.size = none := I1.hok.fresh (Nat.le_refl _)
  have big := I1.big
  have J : Inv X pins σ (upd H1 s1.heap.objs.size (.lst [.str x, y])) { s1 with heap := s1.heap.push { cls := .type "list", data := .seq us.toArray } } :=
    I1.laid (t' := s1.toks) (fun b u e => Heap.get?_push_of_some _ e) (Nat.le_refl _) ⟨triv_sz (show 2 ≤ 1000000 by decide), us, 0, r, Heap.get?_push_size _ rfl⟩
  have k1 : Kp [] H1 (upd H1 s1.heap.objs.size (.lst [.str x, y])) := (Kp.refl _ _).put hf
  have hp : upd H1 s1.heap.objs.size (HO.lst [V.str x, y]) s1.heap.objs.size = some (.lst [.str x, y]) := upd_same
  have out : Q (.str (PyData.list [.str x, d]).shown) (upd H1 s1.heap.objs.size (.lst [.str x, y])) := q _ k1
  have hu := hr.units
  have dpt := sh.dp
  rcases hd with hd | ⟨bb, rfl, hbb, rfl⟩
  · have D : Dp X.K (upd H1 s1.heap.objs.size (HO.lst [V.str x, y])) (.ref s1.heap.objs.size) (.list [.str x, d]) := .lst (SqL.of hp) (.cons (.str _) (.cons (Dp.kp k1 hd) .nil))
    obtain ⟨as, rd⟩ := Dp.reads J _ _ (.ref s1.heap.objs.size) D rfl
    exact repr_of_reads' rd sh.ok (PyData.noDict_hsm (dp_plain D)) gd (by omega) (fun _ _ e => e) (fun h' u tk kp => ⟨.str _, _, J.kept kp, ⟨u, rfl⟩, out⟩) (Nat.le_trans sh.len (triv_sz hb))
  · obtain ⟨ne, rb⟩ := dk_nil J.hok (k1.keep _ _ nin0 hbb fun _ z => nomatch z)
    cases r with
    | cons r1 r2 =>
    cases r2 with
    | cons r2 r3 =>
    cases r3
    cases r2
    obtain ⟨t, rfl⟩ := r1
    have rd : Reads _ (.ref s1.heap.objs.size) (.list [.str x, .dict []]) _ := Reads.list (Heap.get?_push_size (o := { cls := .type "list", data := .seq #[.str x t, .ref bb] }) s1.heap rfl) rfl rfl (.cons (.str x t) (.cons rb .nil))
    refine repr_of_reads' rd sh.ok (fun _ hm => ?_) gd (by omega) (fun _ _ e => e) (fun h' u tk kp => ⟨.str _, _, J.kept kp, ⟨u, rfl⟩, out⟩) (Nat.le_trans sh.len (triv_sz hb))
    simp only [List.nil_append, List.append_nil, List.mem_cons, List.not_mem_nil, or_false] at hm
    rcases hm with z | z
    · rw [z] at big; exact Nat.lt_irrefl _ big
    · rw [z] at ne; simp at ne
end
end Ap


/-! K28: list(zip(range(0), g)): the generator never begins. -/
namespace Ap
open PySem L2 PySem.Spec PyProof.Rows GenW
theorem zip_len0 : typeLookup (.type "zip") "__len__" = pure none := by rw [typeLookup_type, builtinLookup_eq_fast]; kernel_rfl
theorem zip_hint0 : typeLookup (.type "zip") "__length_hint__" = pure none := by rw [typeLookup_type, builtinLookup_eq_fast]; kernel_rfl
section
variable {P : Program} {w : World} {A : Around} {E : Value → Shared → Prop} {s : Shared} {z TI TO it a : Addr} {x left : Int} {p q : Value} {Q : Value → Shared → Prop}
theorem list_zip0 (hh : A.handled = none) (D : ZApart z TI TO it a) (hz : IsZip s.heap z TI TO .none) (hTI : IsPair s.heap TI (.ref it) (.ref a)) (hTO : IsPair s.heap TO p q) (hit : IsRangeIter s.heap it x left 1) (hl : left ≤ 0)
    (hQ : ∀ S h' c, s.heap.objs.size ≤ S → h'.get? S = some (lstObj #[] c) → (∀ b o, b ≠ z → b ≠ it → s.heap.get? b = some o → h'.get? b = some o) → Q (.ref S) { s with heap := h' }) :
    wpAny (model P w) A (call (.type "list") [.ref z]) Q E s := by
  have ty : ∀ {h : Heap}, IsZip h z TI TO .none → ({ s with heap := h } : Shared).TypeIs (.ref z) "zip" := fun y => ⟨_, y, rfl⟩
  have zlt := Heap.lt_size hz
  have nz : s.heap.objs.size ≠ z := Nat.ne_of_gt zlt
  have sm : ∀ {b : Addr} {o : Obj}, s.heap.get? b = some o → b ≠ s.heap.objs.size := fun e => Nat.ne_of_lt (Heap.lt_size e)
  refine callType_codes (Q₁ := fun obj t => obj = .ref s.heap.objs.size ∧ t = { s with heap := s.heap.push { cls := .type "list", data := .seq #[] } }) F.called_list (F.typeCall_list_1 _) F.entry_list_init (code_list_new _ ⟨rfl, rfl⟩) fun obj t ht => ?_
  obtain ⟨rfl, rfl⟩ := ht
  have e0 : (s.heap.push { cls := .type "list", data := .seq #[] }).get? s.heap.objs.size = some { cls := .type "list", data := .seq #[] } := Heap.get?_push_size _ rfl
  refine ⟨⟨_, e0, rfl⟩, F.args_list_init_2 _ _, ?_⟩
  show wpAny _ A.in1.in1 (do let old ← Builtin.List.listItems (.ref s.heap.objs.size); Builtin.List.listUpdate (.ref s.heap.objs.size) (fun _ => #[]); letGo old.toList.reverse; Builtin.List.listExtendWith (.ref s.heap.objs.size) (.ref z) .none) _ _ _
  refine wpAny_bind ?_
  unfold Builtin.List.listItems
  refine wpAny_bind (wpAny_seqItems e0 rfl (wpAny_pure ?_))
  show wpAny _ A.in1.in1 (updateSeq s.heap.objs.size (fun _ => #[]) >>= fun _ => letGo (#[] : Array Value).toList.reverse >>= fun _ => Builtin.List.listExtendWith (.ref s.heap.objs.size) (.ref z) .none) _ _ _
  refine wpAny_bind (wpAny_updateSeq e0 rfl ?_)
  have e1 := Heap.get?_update_self (Obj.mapSeq (fun _ => (#[] : Array Value))) e0 rfl
  refine wpAny_bind (wpAny_letGo ?_)
  unfold Builtin.List.listExtendWith
  have k0 : ∀ b o, s.heap.get? b = some o → (s.heap.push { cls := .type "list", data := .seq #[] }).get? b = some o := fun b o e => Heap.get?_push_of_some _ e
  have up : ∀ (h : Heap) (f : Obj → Obj), (∀ b o, s.heap.get? b = some o → h.get? b = some o) → ∀ b o, s.heap.get? b = some o → (h.update s.heap.objs.size f).get? b = some o := fun h f k b o e =>
    (Heap.get?_update_other _ _ (Ne.symm (sm e))).trans (k b o e)
  have k1 := up _ (Obj.mapSeq (fun _ => (#[] : Array Value))) k0
  refine wpAny_bind (wpAny_typeOf (ty (k1 _ _ hz)) ?_)
  have n1 : Builtin.List.listSameRef (.ref s.heap.objs.size) (.ref z) = false := by simp [Builtin.List.listSameRef, nz]
  have n2 : (Value.type "zip" == Value.type "list") = false := by decide
  have n3 : (Value.type "zip" == Value.type "tuple") = false := by decide
  simp only [n1, n2, n3, Bool.or_false, Bool.false_eq_true, if_false]
  refine wpAny_bind (wpAny_pyIter_zip (s := { s with heap := _ }) (k1 _ _ hz) ?_)
  refine wpAny_bind (wpAny_holding ?_)
  unfold Builtin.List.listLengthHint
  refine wpAny_bind (wpAny_specialOf (ty (k1 _ _ hz)) zip_len0 ?_)
  show wpAny _ A.in1.in1 (specialOf (Value.ref z) (Str.ofString "__length_hint__") >>= _) _ _ _
  refine wpAny_bind (wpAny_specialOf (ty (k1 _ _ hz)) zip_hint0 (wpAny_pure ?_))
  show wpAny _ A.in1.in1 (rule "list.extend.makes-room" >>= fun _ => Builtin.List.listTouch (.ref s.heap.objs.size) >>= fun _ =>
    again (.builtin "list.extend.loop" ⟨[.ref s.heap.objs.size, .ref z, .none], []⟩)) _ _ _
  refine wpAny_bind (wpAny_rule (wpAny_bind ?_))
  show wpAny _ A.in1.in1 (updateSeq s.heap.objs.size (·.push .none) >>= fun _ => updateSeq s.heap.objs.size (·.pop)) _ _ _
  refine wpAny_bind (wpAny_updateSeq e1 rfl ?_)
  have e2 := Heap.get?_update_self (Obj.mapSeq (·.push Value.none)) e1 rfl
  refine wpAny_updateSeq (hz := by seq_fits) e2 rfl ?_
  have e3 := Heap.get?_update_self (Obj.mapSeq (·.pop)) e2 rfl
  have k3 := up _ (Obj.mapSeq (·.pop)) (up _ (Obj.mapSeq (·.push Value.none)) k1)
  refine wpAny_pure ⟨plainId_quiet F.plain_extend_loop _, codeAny_builtin F.entry_extend_loop ?_⟩
  rw [Around.under_plainId F.plain_extend_loop _]
  refine wpAny_bind (zipN_end hh D (k3 _ _ hz) (k3 _ _ hTI) (k3 _ _ hTO) (k3 _ _ hit) hl fun h' k4 => wpAny_pure ⟨rfl, ?_⟩)
  exact hQ s.heap.objs.size h' _ (Nat.le_refl _) (k4 _ _ nz (fun y => sm hit y.symm) e3) fun b o b1 b2 e => k4 b o b1 b2 (k3 b o e)
end
def tListZ0 (ta : TA) (tg : TGn2) : TE := fun σ H Q => ta σ H fun vs H1 => vs = [.int 0] ∧ tg σ H1 fun few _ H2 => few = 0 ∧ ∀ p, H2 p = none → Q (.ref p) (upd H2 p (.lst []))
section
variable {X : Cx} {k : Nat} {pl pz pr ppos1 ppos2 pos : Pos} {e1 eg : Expr} {ta : TA} {tg : TGn2}
theorem pe_listZ0 (hc : X.calm = true) (hgl : Gl X "list") (hml : X.mg "list" = none) (hgz : Gl X "zip") (hmz : X.mg "zip" = none) (hgr : Gl X "range") (hmr : X.mg "range" = none) (ha : PA X [e1] ta) (heg : PGenN X k eg tg)
    (hs1 : starEach [e1] X.env = [(false, eval e1 X.env)] := by rfl) (hsz : starEach [.Call (.Name "range" pr) [e1] [] ppos1, eg] X.env = [(false, eval (.Call (.Name "range" pr) [e1] [] ppos1) X.env), (false, eval eg X.env)] := by rfl)
    (hsz2 : starEach [eg] X.env = [(false, eval eg X.env)] := by rfl)
    (hsl : starEach [.Call (.Name "zip" pz) [.Call (.Name "range" pr) [e1] [] ppos1, eg] [] ppos2] X.env = (false, eval (.Call (.Name "zip" pz) [.Call (.Name "range" pr) [e1] [] ppos1, eg] [] ppos2) X.env) :: starEach [] X.env := by rfl) :
    PE X (.Call (.Name "list" pl) [.Call (.Name "zip" pz) [.Call (.Name "range" pr) [e1] [] ppos1, eg] [] ppos2] [] pos) (tListZ0 ta tg) := by
  refine ⟨fun pins s σ H Q I h => ?_⟩
  refine wpAny_Call_Name_kw (ld_blt I hgl hml (by rfl : bootBuiltins "list" = some (.type "list")) ?_ (by decide) (by decide))
  refine PyProof.Rows.callWith_type1 ?_ hsl rfl
  rw [hsl]
  show wpAny _ _ (spliced ((false, eval (.Call (.Name "zip" pz) [.Call (.Name "range" pr) [e1] [] ppos1, eg] [] ppos2) X.env) :: backTo pos (starEach [] X.env))) _ _ s
  refine Calls.spliced_cons (Call_ (ld_blt I hgz hmz PyProof.Rows.boot_zip (PyProof.Rows.callWith_type1 ?_ (by rw [hsz, hsz2]) (by rw [hsz2]; rfl))))
  rw [hsz]
  show wpAny _ _ (spliced ((false, eval (.Call (.Name "range" pr) [e1] [] ppos1) X.env) :: (false, eval eg X.env) :: [])) _ _ s
  refine Calls.spliced_cons (Call_ (ld_blt I hgr hmr boot_range (PyProof.Rows.callWith_type1 (thn (ha.run ppos1 pins s σ H _ I h) fun us s1 hh => ?_) hs1 rfl)))
  obtain ⟨vs, H1, I1, r1, rfl, q1⟩ := hh
  cases r1 with
  | cons r1 r2 =>
  cases r2
  obtain ⟨t, rfl⟩ := r1
  refine call_range_1 ?_
  generalize hro : ({ cls := .type "range", data := .fields #[.int 0 s1.toks, .int 0 t, .int 1 (s1.toks + 1)] } : Obj) = ro
  have I2 : Inv X pins σ H1 { s1 with heap := s1.heap.push ro, toks := s1.toks + 1 + 1 } := I1.kept fun b o e => Heap.get?_push_of_some _ e
  have rfresh : H1 s1.heap.objs.size = none := I1.hok.fresh (Nat.le_refl _)
  have rn : s1.heap.objs.size ≠ X.env.locals := Nat.ne_of_gt I1.lt
  have rfs : s1.heap.objs.size ∉ X.fs := I1.nofs (Nat.le_refl _)
  have rat : (s1.heap.push ro).get? s1.heap.objs.size = some ro := Heap.get?_push_size _ (by subst hro; rfl)
  generalize hra : s1.heap.objs.size = r at *
  have I3 : Inv X (pins ++ [(r, ro)]) σ H1 { s1 with heap := s1.heap.push ro, toks := s1.toks + 1 + 1 } := I2.pins_of fun p hp => (List.mem_append.mp hp).elim (fun z => I2.pin p (List.mem_append_right _ z)) fun z => by
    cases List.mem_singleton.mp z
    exact ⟨rat, rfresh, rn, rfs, fun v z => by subst hro; cases z⟩
  refine Calls.spliced_cons (thn (heg.run _ _ σ H1 _ I3 q1) fun u s3 hh => Calls.spliced_nil ?_)
  obtain ⟨H2, sc, few, Y, a, g, c, rfl, J, M, rfl, fin⟩ := hh
  have rsc : sc.heap.get? r = some ro := (J.pin (r, ro) (List.mem_append_right _ (List.mem_append_right _ (List.mem_singleton.mpr rfl)))).1
  have J : Inv X pins σ H2 sc := J.unpinned
  have sz3 : sc.heap.objs.size ≤ s3.heap.objs.size := Nat.le_trans M.lo (Nat.le_of_lt M.hi)
  have sm : Builtin.Range.small 0 0 1 = true := small_one (by decide) (by decide) (by omega) (by omega)
  have hrs : Builtin.Range.rangeSize 0 0 1 = 0 := by decide
  refine call_zipN (t := s1.toks) (u := t) (v := s1.toks + 1) (by subst hro; exact M.keep _ _ rsc) sm M.gen fun h4 it TI TO z lit lTI lTO lz D hz hTI hTO hit k4 => ?_
  rw [hrs] at hit
  refine Calls.spliced_nil ?_
  refine list_zip0 (s := { s3 with heap := h4 }) (J.ok.hd hc) D hz hTI hTO hit (Int.le_refl _) fun S h' c' hS eS kp => ?_
  have kq : ∀ b o, sc.heap.get? b = some o → h'.get? b = some o := fun b o e => by
    have l := Heap.lt_size e
    exact kp b o (Nat.ne_of_lt (Nat.lt_of_lt_of_le l (Nat.le_trans sz3 lz))) (Nat.ne_of_lt (Nat.lt_of_lt_of_le l (Nat.le_trans sz3 lit))) (k4 b o (M.keep b o e))
  have sS : sc.heap.objs.size ≤ S := by
    have l := Heap.lt_size hz
    exact Nat.le_trans (Nat.le_trans sz3 lz) (Nat.le_of_lt (Nat.lt_of_lt_of_le l hS))
  exact ⟨.ref S, upd H2 S (.lst []), J.drained (acc := #[]) (out := []) sS (Nat.zero_le _) eS .nil .nil M.os M.bare (Un.kept kq) (J.hok.kept kq) (J.hok.fresh sS), rfl, fin S (J.hok.fresh sS)⟩
end
end Ap
namespace Ap
open PySem L2
def kLz0 (tg : TGn2) (σ : L2.St) (Q : VK) : LK := fun vs H1 => vs = [.int 0] ∧ tg σ H1 fun few _ H2 => few = 0 ∧ ∀ p, H2 p = none → Q (.ref p) (upd H2 p (.lst []))
instance i_lz0 {ta : TA} {tg : TGn2} {σ : L2.St} {H : Hp} {Q : VK} : St (tListZ0 ta tg σ H Q) (ta σ H (kLz0 tg σ Q)) := ⟨id⟩
end Ap


/-! P1: dicts of persons, rows by places. -/
namespace Ap
open PySem L2
def kvm (l : List Int) (g : Int → V) : List (Key × V) := l.map fun p => (Sum.inl p, g p)
theorem kvm_len (l : List Int) (g : Int → V) : (kvm l g).length = l.length := List.length_map _
theorem kvm_val {l : List Int} {g : Int → V} {k : Int} : k ∈ l → valV (kvm l g) (Sum.inl k) = some (g k) := by
  induction l with
  | nil => exact fun h => nomatch h
  | cons a r ih =>
    intro h
    unfold kvm valV at ih ⊢
    rw [List.map_cons, List.find?_cons]
    by_cases e : a = k
    · subst e; simp
    · have hk : k ∈ r := by
        rcases List.mem_cons.mp h with h | h
        · exact absurd h.symm e
        · exact h
      have : decide ((Sum.inl a : Key) = Sum.inl k) = false := decide_eq_false fun z => e (Sum.inl.inj z)
      simp only [this]
      exact ih hk
theorem kvm_none {l : List Int} {g : Int → V} {k : Int} (h : k ∉ l) : valV (kvm l g) (Sum.inl k) = none := by
  unfold valV
  rw [List.find?_eq_none.mpr]
  · rfl
  · intro x hx z
    obtain ⟨p, hp, rfl⟩ := List.mem_map.mp hx
    have := of_decide_eq_true z
    exact h (Sum.inl.inj this ▸ hp)
theorem kvm_congr {l : List Int} {g g' : Int → V} (h : ∀ p ∈ l, g p = g' p) : kvm l g = kvm l g' := List.map_congr_left fun p hp => by rw [h p hp]
theorem kvm_put {l : List Int} {g : Int → V} {k : Int} {v : V} (h : k ∈ l) : putK (kvm l g) (Sum.inl k) v = kvm l fun p => if p = k then v else g p := by
  unfold putK
  rw [if_pos]
  · unfold kvm
    rw [List.map_map]
    refine List.map_congr_left fun p _ => ?_
    show (if (Sum.inl p : Key) = Sum.inl k then ((Sum.inl p : Key), v) else _) = _
    by_cases e : p = k
    · rw [if_pos (by rw [e])]
      show _ = (_, if p = k then v else g p)
      rw [if_pos e]
    · rw [if_neg (fun z => e (Sum.inl.inj z))]
      show _ = (_, if p = k then v else g p)
      rw [if_neg e]
  · exact List.any_eq_true.mpr ⟨_, List.mem_map.mpr ⟨k, h, rfl⟩, decide_eq_true rfl⟩
theorem kvm_new {l : List Int} {g : Int → V} {k : Int} (h : k ∉ l) : putK (kvm l g) (Sum.inl k) (g k) = kvm (l ++ [k]) g := by
  rw [putK_new]
  · unfold kvm
    rw [List.map_append]; rfl
  · exact kvm_none h
theorem idxOf_at : ∀ {l : List Int} {i : Nat} {x : Int}, l.Nodup → l[i]? = some x → l.idxOf x = i
  | a :: r, 0, x, _, h => by
    cases h
    simp [List.idxOf_cons]
  | a :: r, i + 1, x, nd, h => by
    obtain ⟨h1, h2⟩ := List.nodup_cons.mp nd
    have hr : r[i]? = some x := h
    have ne : ¬ a = x := fun e => h1 (e ▸ List.mem_of_getElem? hr)
    rw [List.idxOf_cons, beq_false_of_ne ne, idxOf_at h2 hr]
    rfl
theorem at_idxOf : ∀ {l : List Int} {x : Int}, x ∈ l → l[l.idxOf x]? = some x
  | a :: r, x, h => by
    rw [List.idxOf_cons]
    by_cases e : a = x
    · subst e; simp
    · have hx : x ∈ r := by
        rcases List.mem_cons.mp h with h | h
        · exact absurd h.symm e
        · exact h
      rw [beq_false_of_ne e]
      exact at_idxOf hx
theorem seat_at {l : List Int} {i : Nat} {x : Int} (nd : l.Nodup) (h : l[i]? = some x) : seat l x = i + 1 := by
  unfold seat
  rw [idxOf_at nd h]
theorem seat_pos {n : Nat} {row : List Int} (h : Stand n row) {p : Int} (hp : p ∈ up n) : 1 ≤ seat row p ∧ seat row p ≤ n := by
  have e := at_idxOf (h.mem.mpr hp)
  have := (List.getElem?_eq_some_iff.mp e).1
  have := h.length
  unfold seat
  omega
theorem seat_inj {n : Nat} {row : List Int} (h : Stand n row) {p q : Int} (hp : p ∈ up n) (hq : q ∈ up n) (e : seat row p = seat row q) : p = q := by
  have e1 := at_idxOf (h.mem.mpr hp)
  have e2 := at_idxOf (h.mem.mpr hq)
  unfold seat at e
  have : row.idxOf p = row.idxOf q := by omega
  rw [this, e2] at e1
  exact (Option.some.inj e1).symm
theorem set_sw {row : List Int} {i j : Nat} {a b : Int} (nd : row.Nodup) (ha : row[i]? = some a) (hb : row[j]? = some b) (ne : a ≠ b) : (row.set j a).set i b = row.map (sw a b) := by
  refine List.ext_getElem? fun k => ?_
  have li := (List.getElem?_eq_some_iff.mp ha).1
  have lj := (List.getElem?_eq_some_iff.mp hb).1
  rw [List.getElem?_map, List.getElem?_set, List.getElem?_set, List.length_set]
  by_cases h1 : i = k
  · subst h1
    rw [if_pos rfl, if_pos li, ha, Option.map_some, sw_l]
  · rw [if_neg h1]
    by_cases h2 : j = k
    · subst h2
      rw [if_pos rfl, if_pos lj, hb, Option.map_some, sw_r]
    · rw [if_neg h2]
      cases e : row[k]? with
      | none => rfl
      | some x =>
        rw [Option.map_some, sw_o]
        · exact fun z => h1 (by rw [← idxOf_at nd ha, ← idxOf_at nd e, z])
        · exact fun z => h2 (by rw [← idxOf_at nd hb, ← idxOf_at nd e, z])
/-- the places of a row's people, as r0 tells them; d is added -/
def spk (d : Int) (r0 row : List Int) : List (Key × V) := kvm r0 fun p => .int (seat row p + d)
theorem spk_swap {d : Int} {n : Nat} {r0 row : List Int} (h0 : Stand n r0) {a b : Int} (ha : a ∈ up n) (hb : b ∈ up n) :
    putK (putK (spk d r0 row) (Sum.inl a) (.int (seat row b + d))) (Sum.inl b) (.int (seat row a + d)) = spk d r0 (row.map (sw a b)) := by
  unfold spk
  rw [kvm_put (h0.mem.mpr ha), kvm_put (h0.mem.mpr hb)]
  refine kvm_congr fun p _ => ?_
  rw [seat_map]
  by_cases h1 : p = b
  · subst h1; rw [if_pos rfl, sw_r]
  · rw [if_neg h1]
    by_cases h2 : p = a
    · subst h2; rw [if_pos rfl, sw_l]
    · rw [if_neg h2, sw_o h2 h1]
/-! ### steps of dicts in targets, and with tuple keys -/
section
variable {K : PySem.W.Frag} {σ : L2.St} {H : Hp} {Q : VK} {y v : V} {R : Hp → Prop} {R2 : L2.St → Hp → Prop}
theorem g_setD {a : Addr} {kvs : List (Key × V)} {k : Key} (e : H a = some (.dK kvs)) (ey : y = kV k) (l : kvs.length < sizeLine) (h : R (upd H a (.dK (putK kvs k v)))) : rSetD (.ref a) y v H R := ⟨a, _, rfl, by rw [ey]; exact DPut.k e l, h⟩
theorem g_setT {a b : Addr} {kvs : List (List Key × V)} {k : List Key} (e : H a = some (.dT kvs)) (eb : H b = some (.tup (k.map kV))) (l : kvs.length < sizeLine) (h : R (upd H a (.dT (putK kvs k v)))) : rSetD (.ref a) (.ref b) v H R := ⟨a, _, rfl, DPut.t e eb l, h⟩
theorem g_putT {a b : Addr} {kvs : List (List Key × V)} {k : List Key} (e : H a = some (.dT kvs)) (eb : H b = some (.tup (k.map kV))) (l : kvs.length < sizeLine) (h : R2 σ (upd H a (.dT (putK kvs k v)))) : kDf (fPut v σ R2) (.ref a) (.ref b) H := ⟨a, _, rfl, DPut.t e eb l, h⟩
theorem g_dinT {a b : Addr} {kvs : List (List Key × V)} {k : List Key} {c : Bool} (e : H a = some (.dT kvs)) (eb : H b = some (.tup (k.map kV))) (h : Q (.bl (if c = true then (valV kvs k).isSome else !(valV kvs k).isSome)) H) : kDf (fIn c Q) (.ref b) (.ref a) H := ⟨a, _, rfl, DGet.t e eb, h⟩
theorem g_dnewT (h : ∀ p, H p = none → Q (.ref p) (upd H p (.dT []))) : tDNewT σ H Q := h
end
/-! ### x += e -/
section
variable {σ : L2.St} {H : Hp} {Q : VK} {te : TE} {x y z : V} {i : Nat} {D : Ends} {ti : TIp} {a b : Int} {R : L2.St → Hp → Prop}
def kGn (i : Nat) (σ : L2.St) (R : L2.St → Hp → Prop) : VK := fun z H2 => gName i z σ H2 R
def kAug (i : Nat) (x : V) (ti : TIp) (σ : L2.St) (R : L2.St → Hp → Prop) : VK := fun y H1 => ti x y H1 (kGn i σ R)
theorem g_aug (e : σ[i]? = some (some x)) (h : te σ H (kAug i x ti σ D.nx)) : tAug i te ti D σ H := ⟨x, e, h⟩
instance i_kAug : St (kAug i x ti σ R y H) (ti x y H (kGn i σ R)) := ⟨id⟩
instance i_kGn : St (kGn i σ R z H) (gName i z σ H R) := ⟨id⟩
instance i_ipI {f : Int → Int → Int} : St (ipI f (.int a) (.int b) H Q) (Q (.int (f a b)) H) := ⟨fun h => ⟨a, b, rfl, rfl, h⟩⟩
theorem g_ipM (h : 0 < b) (q : Q (.int (a % b)) H) : ipM (.int a) (.int b) H Q := ⟨a, b, rfl, rfl, h, q⟩
end
/-! ### sets of whole numbers -/
section
variable {w : World} {σ : L2.St} {H : Hp} {Q : VK} {te : TE} {ta : TA} {x : V}
def kSad (w : World) (ta : TA) (σ : L2.St) (Q : VK) : VK := fun x H1 => (∃ a S n, x = V.ref a ∧ H1 a = some (SetO w a S n)) ∧ ta σ H1 fun xs H2 => rSAdd w x xs H2 Q
def kSad2 (w : World) (x : V) (Q : VK) : LK := fun xs H2 => rSAdd w x xs H2 Q
instance i_sadd : St (tSAdd w te ta σ H Q) (te σ H (kSad w ta σ Q)) := ⟨id⟩
instance i_kSad2 {xs : List V} : St (kSad2 w x Q xs H) (rSAdd w x xs H Q) := ⟨id⟩
theorem g_kSad {a : Addr} {S : Int → Bool} {n : Nat} (e : H a = some (SetO w a S n)) (h : ta σ H (kSad2 w (.ref a) Q)) : kSad w ta σ Q (.ref a) H := ⟨⟨a, S, n, rfl, e⟩, h⟩
theorem g_sadd {a : Addr} {k : Int} {S : Int → Bool} {n : Nat} (e : H a = some (SetO w a S n)) (l : n ≤ 3000) (h : Q .non (upd H a (SetO w a (fun j => S j || decide (j = k)) (if S k = true then n else n + 1)))) : rSAdd w (.ref a) [.int k] H Q :=
  ⟨a, k, S, n, rfl, rfl, e, Nat.lt_of_le_of_lt (m := 3001) (by omega) (by decide), h⟩
end
/-! ### dict comprehensions -/
section
variable {K : PySem.W.Frag} {σ : L2.St} {H : Hp} {Q : VK} {tk tv : TE} {tt : TT} {g : TG} {vs : List Nat} {D : Addr} {N : Hp → Prop} {y : V}
def kDc (g : TG) (tt : TT) (tk tv : TE) (vs : List Nat) (σ : L2.St) (Q : VK) : It → Hp → Prop := fun J H1 => ∀ D, H1 D = none → ∃ W : Nat → Nat → Hp → Prop, (∃ m, W 0 m (upd H1 D (.dK []))) ∧ ∀ i m H, W i m H →
  (J.stop i H ∧ Q (.ref D) H) ∨ (J.go i H ∧ ∃ Nx : Hp → Prop, (∀ H', Nx H' → ∃ m', m' < m ∧ W (i + 1) m' H') ∧ ∀ x H', J.yld i H x H' → g x (wipe σ vs) H' fun σ2 H2 => wipe σ2 vs = wipe σ vs ∧ tt σ2 H2 fun b H3 =>
    if b = true then tk σ2 H3 fun y H4 => tv σ2 H4 fun z H5 => ∃ kvs k, y = kV k ∧ H5 D = some (.dK kvs) ∧ kvs.length < sizeLine ∧ Nx (upd H5 D (.dK (putK kvs k z))) else Nx H3)
instance i_dc {wi : TI} : St (tDc wi g tt tk tv vs σ H Q) (wi σ H (kDc g tt tk tv vs σ Q)) := ⟨id⟩
def kDv (D : Addr) (y : V) (N : Hp → Prop) : VK := fun z H5 => ∃ kvs k, y = kV k ∧ H5 D = some (.dK kvs) ∧ kvs.length < sizeLine ∧ N (upd H5 D (.dK (putK kvs k z)))
def kDk (tv : TE) (σ : L2.St) (D : Addr) (N : Hp → Prop) : VK := fun y H4 => tv σ H4 (kDv D y N)
def kDg (tt : TT) (tk tv : TE) (D : Addr) (vs : List Nat) (w0 : L2.St) (N : Hp → Prop) : L2.St → Hp → Prop := fun σ2 H2 => wipe σ2 vs = w0 ∧ tt σ2 H2 (kIf (fun H3 => tk σ2 H3 (kDk tv σ2 D N)) N)
theorem g_kDg {w0 : L2.St} (e : wipe σ vs = w0) (h : tt σ H (kIf (fun H3 => tk σ H3 (kDk tv σ D N)) N)) : kDg tt tk tv D vs w0 N σ H := ⟨e, h⟩
instance i_kDk : St (kDk tv σ D N y H) (tv σ H (kDv D y N)) := ⟨id⟩
theorem g_kDv {z : V} {kvs : List (Key × V)} {k : Key} (ey : y = kV k) (e : H D = some (.dK kvs)) (l : kvs.length < sizeLine) (h : N (upd H D (.dK (putK kvs k z)))) : kDv D y N z H := ⟨kvs, k, ey, e, l, h⟩
theorem dc_it {J : It} {n : Nat} {G : Hp → Prop} {Y : Nat → Hp → V → Hp → Prop} (w : Walk J n G Y) {w0 : L2.St} (ew : wipe σ vs = w0)
    (h : ∀ D, H D = none → ∃ Pv : Nat → Hp → Prop, Pv 0 (upd H D (.dK [])) ∧ (∀ i H, i ≤ n → Pv i H → G H) ∧ (∀ i x H1 H', i < n → Pv i H1 → Y i H1 x H' → g x w0 H' (kDg tt tk tv D vs w0 (Pv (i + 1)))) ∧ ∀ H, Pv n H → Q (.ref D) H) : kDc g tt tk tv vs σ Q J H := by
  subst ew
  intro D hD
  obtain ⟨Pv, h0, hG, hs, hd⟩ := h D hD
  refine ⟨fun i m H => m = n - i ∧ i ≤ n ∧ Pv i H, ⟨n, by simp, Nat.zero_le _, h0⟩, ?_⟩
  rintro i m H1 ⟨rfl, hi, hp⟩
  by_cases e : i = n
  · subst e
    exact .inl ⟨w.stops _ (hG _ _ hi hp), hd _ hp⟩
  · have hi' : i < n := by omega
    refine .inr ⟨w.goes _ _ hi' (hG _ _ hi hp), Pv (i + 1), fun H' p' => ⟨n - (i + 1), by omega, rfl, by omega, p'⟩, fun x H' hy => hs i x H1 H' hi' hp (w.yields _ _ _ _ hi' (hG _ _ hi hp) hy)⟩
end
end Ap


/-! K25: a text some times over. -/
namespace Ap
open PySem L2 PySem.Spec PyProof.Rows
def rSmul : R2 := fun x y H Q => ∃ (s : Str) (n : Int), x = .str s ∧ y = .int n ∧ MulOk s n ∧ Q (.str (Txt.mul s n)) H
theorem op_smul {X : Cx} : OpR X (binaryOp .Mult) rSmul := by
  intro pins s σ H x y v u Q I rx ry h
  obtain ⟨z, n, rfl, rfl, ok, q⟩ := h
  obtain ⟨t, rfl⟩ := (show ∃ t, v = Value.str z t from rx)
  obtain ⟨t2, rfl⟩ := (show ∃ t, u = Value.int n t from ry)
  exact SB.mul ok fun t' k => ⟨.str _, H, I.tok k, ⟨t', rfl⟩, q⟩
/-- a short one, not many times -/
theorem mulOk_of {z : Str} {n : Int} (h0 : 1 ≤ n) (h1 : n ≤ 40) (hz : z.length ≤ 40) : MulOk z n := by
  refine ⟨?_, fun _ _ => ?_, fun _ _ => ?_⟩
  · rw [decide_eq_false (by omega), decide_eq_false (by omega)]; rfl
  · have : (40 : Int) ≤ (2 ^ 63 - 1) / n := (Int.le_ediv_iff_mul_le (by omega)).mpr (by omega)
    omega
  · have : z.length * n.toNat ≤ 40 * 40 := Nat.mul_le_mul hz (by omega)
    show decide (z.length * n.toNat > sizeLine) = false
    refine decide_eq_false ?_
    rw [sizeLine_eq]
    omega
end Ap


open PySem L2 Ap
local macro_rules | `(tactic| walk_at "ne") => `(tactic| first
  | assumption
  | exact Ne.symm (by assumption)
  | exact ne_nn (by assumption) (by walk_at "look")
  | exact Ne.symm (ne_nn (by assumption) (by walk_at "look"))
  | exact ne_kd (by assumption) (by assumption) (by with_unfolding_all rfl))
local macro_rules | `(tactic| walk_at "nin") => `(tactic| first
  | exact nin0
  | exact nin1 (by walk_at "ne")
  | exact nin2 (by walk_at "ne") (by walk_at "ne")
  | assumption)
local macro_rules | `(tactic| walk_at "look") => `(tactic| first
  | assumption
  | exact upd_same
  | exact (upd_ne (by walk_at "ne")).trans (by walk_at "look")
  | exact Kp.look (by assumption) (by walk_at "nin") (by walk_at "look") (ntb (by with_unfolding_all rfl)))
local macro_rules | `(tactic| walk_at "s1") => `(tactic| refine St.go ?_)
local macro_rules | `(tactic| walk_at "s2") => `(tactic| first
  | ((with_reducible refine' g_ixL ?hl ?ha ?_); (case hl => walk_at "look"); (case ha => first | assumption | with_unfolding_all rfl))
  | ((with_reducible refine' g_ixT ?hl ?ha ?_); (case hl => walk_at "look"); (case ha => first | assumption | with_unfolding_all rfl))
  | ((with_reducible refine' g_setL0 ?hl ?_); (case hl => walk_at "look"))
  | ((with_reducible refine' g_setL1 ?hl ?_); (case hl => walk_at "look"))
  | ((with_reducible refine' g_setL ?hl ?ha ?_); (case hl => walk_at "look"); (case ha => first | assumption | with_unfolding_all rfl))
  | ((with_reducible refine' g_kBMl ?hl ?_); (case hl => walk_at "look"))
  | ((with_reducible refine' g_kBM0l ?hl ?_); (case hl => walk_at "look"))
  | ((with_reducible refine' g_len ?hl ?_); (case hl => walk_at "look"))
  | ((with_reducible refine' g_lenT ?hl ?_); (case hl => walk_at "look"))
  | ((with_reducible refine' g_kIL ?hl ?_); (case hl => walk_at "look"))
  | ((with_reducible refine' g_gTup ?hl ?hn ?_); (case hl => walk_at "look"); (case hn => with_unfolding_all rfl))
  | ((with_reducible refine' g_gLst ?hl ?hn ?_); (case hl => walk_at "look"); (case hn => with_unfolding_all rfl))
  | ((with_reducible refine' g_kIEn ?hl ?_); (case hl => walk_at "look"))
  | ((with_reducible refine' g_aug ?he ?_); (case he => with_unfolding_all rfl))
  | ((with_reducible refine' g_kRv ?hl ?_); (case hl => walk_at "look"); (intro _ _))
  | ((with_reducible refine' g_ipM ?hc ?_); (case hc => walk_at "cond"))
  | ((with_reducible refine' g_kAd ?hl ?_); (case hl => walk_at "look"))
  | ((with_reducible refine' g_sd ?hl ?_); (case hl => walk_at "look"))
  | ((with_reducible refine' g_kVl ?hl ?_); (case hl => walk_at "look"); (intro _ _))
  | ((with_reducible refine' g_slL ?hl ?_); (case hl => walk_at "look"); (intro _ _))
  | ((with_reducible refine' g_inS ?hl ?hf ?hg ?_); (case hl => walk_at "look"); (case hf => first | rfl | assumption); (case hg => first | rfl | assumption))
  | ((with_reducible refine' g_niS ?hl ?hf ?hg ?_); (case hl => walk_at "look"); (case hf => first | rfl | assumption); (case hg => first | rfl | assumption))
  | ((with_reducible refine' g_neE ?hl ?hm ?_); (case hl => walk_at "look"); (case hm => walk_at "look"))
  | ((with_reducible refine' g_eqE ?hl ?hm ?_); (case hl => walk_at "look"); (case hm => walk_at "look"))
  | ((with_reducible refine g_rI ?hc ?_); (case hc => walk_at "cond"))
  | ((with_reducible refine g_kL ?hl ?_); (case hl => with_unfolding_all rfl); intro _ _)
  | ((with_reducible refine g_kTu ?hl ?_); (case hl => with_unfolding_all rfl); intro _ _)
  | ((with_reducible refine' g_list ?hl ?_); (case hl => walk_at "look"); intro _ _)
  | ((with_reducible refine g_kRg ?hl ?_); (case hl => omega); intro _ _)
  | ((with_reducible refine g_kIR1 ?hl ?_); (case hl => omega))
  | ((with_reducible refine g_kIR2 ?hl ?_); (case hl => omega)))
local macro_rules | `(tactic| walk_at "cond") => `(tactic| first
  | decide
  | (show (0 : Int) < _; omega)
  | (refine Or.inl ?_; omega)
  | (refine Or.inr ?_; omega)
  | (show (0 : Int) < _ ∧ _ < (1073741824 : Int); omega)
  | exact ⟨by decide +kernel, by decide +kernel⟩
  | assumption)
local macro_rules | `(tactic| walk_at "go") => `(tactic| repeat (first | walk_at "s1" | walk_at "s2"))

namespace Ap
open PySem L2
/-! the law's drawer, told exactly -/
abbrev Dst := Int × Int × Bool
def nxV (d : Dst) : Int :=
  if d.2.2 then d.1 % 1000000
  else
    let x := ((d.1 % 1000003 + (d.2.1 + 1) * (d.2.1 + 1) * 7919 + (d.2.1 + 1)) * 48271) % 2147483629
    let y := (x * x) % 2147483587
    (y * (y + 2)) % 2147483579 / 7
def nxS (d : Dst) : Dst := (if d.2.2 then d.1 / 1000000 else d.1, d.2.1 + 1, d.2.2)
theorem nxV_nn (d : Dst) : 0 ≤ nxV d := by
  unfold nxV
  split
  · omega
  · dsimp only; omega
theorem nxV_lt (d : Dst) : nxV d < 2 ^ 31 := by
  unfold nxV
  split
  · omega
  · dsimp only; omega
def DrAt (a : Addr) (d : Dst) (H : Hp) : Prop := H a = some (.lst [.int d.1, .int d.2.1, .bl d.2.2])
def Dok (d : Dst) (m : Nat) : Prop := 0 ≤ d.1 ∧ 0 ≤ d.2.1 ∧ d.2.1 ≤ m
theorem Dok.next {d : Dst} {m : Nat} (h : Dok d m) : Dok (nxS d) (m + 1) := by
  obtain ⟨h1, h2, h3⟩ := h
  unfold nxS
  refine ⟨?_, ?_, ?_⟩
  · dsimp only; split <;> omega
  · dsimp only; omega
  · dsimp only; omega
theorem Dok.mono {d : Dst} {m m' : Nat} (h : Dok d m) (l : m ≤ m') : Dok d m' := ⟨h.1, h.2.1, by have := h.2.2; omega⟩
/-- a drawer stands at a: some number, some count up to m, some flag -/
def Draws (a : Addr) (m : Nat) (H : Hp) : Prop := ∃ d, DrAt a d H ∧ Dok d m
theorem Draws.mono {a : Addr} {m m' : Nat} {H : Hp} (h : Draws a m H) (l : m ≤ m') : Draws a m' H := by
  obtain ⟨d, e, h1⟩ := h
  exact ⟨d, e, h1.mono l⟩
theorem DrAt.ne {a : Addr} {d : Dst} {H : Hp} (h : DrAt a d H) : H a ≠ none := by
  unfold DrAt at h
  rw [h]; exact fun z => nomatch z
theorem Draws.ne {a : Addr} {m : Nat} {H : Hp} (h : Draws a m H) : H a ≠ none := by
  obtain ⟨d, e, _⟩ := h
  exact e.ne
theorem Draws.put {a p : Addr} {m : Nat} {H : Hp} {o : HO} (h : Draws a m H) (n : a ≠ p) : Draws a m (upd H p o) := by
  obtain ⟨d, e, h1⟩ := h
  exact ⟨d, (upd_ne n).trans e, h1⟩
theorem Draws.new {a p : Addr} {m : Nat} {H : Hp} {o : HO} (h : Draws a m H) (n : H p = none) : Draws a m (upd H p o) := h.put fun z => h.ne (z ▸ n)
theorem Draws.kp {a : Addr} {m : Nat} {H H' : Hp} (h : Draws a m H) (k : Kp [] H H') : Draws a m H' := by
  obtain ⟨d, e, h1⟩ := h
  exact ⟨d, k.lst nin0 e, h1⟩
/-- exact -/
def spNextX : Sp := fun vs H Q _ => ∃ (a : Addr) (m : Nat) (d : Dst), vs = [.ref a] ∧ DrAt a d H ∧ Dok d m ∧ m < 2 ^ 40 ∧ ∀ (H' : Hp), Kp [a] H H' → DrAt a (nxS d) H' → Q (.int (nxV d)) H'
def spNext : Sp := fun vs H Q _ => ∃ (a : Addr) (m : Nat), vs = [.ref a] ∧ Draws a m H ∧ m < 2 ^ 40 ∧ ∀ (r : Int) (H' : Hp), 0 ≤ r → r < 2 ^ 31 → Kp [a] H H' → Draws a (m + 1) H' → Q (.int r) H'
section
variable {P : Program} {w : World} {K : PySem.W.Frag} {mg : Str → Option Value} {base : Heap}
theorem ok_nextX (T : Txt P K mg base) : FnG P w K mg base CX0 1 T.a_Lnext T.fd_Lnext ["_law_draws_here"] spNextX := by
  refine fnG_of0 T.F_Lnext sc_Lnext (fun vs H Q E h => ?_) (fun cdv A outer s H vs Q E hcd hr gd h => ?_)
  · obtain ⟨a, m, d, rfl, _⟩ := h
    rfl
  · obtain ⟨a, m, ⟨c, k, b⟩, rfl, ha, hd, hm2, q⟩ := h
    obtain ⟨hc, hk, hm⟩ := hd
    have ha : H a = some (.lst [.int c, .int k, .bl b]) := ha
    have hc : 0 ≤ c := hc
    have hk : 0 ≤ k := hk
    have hm : k ≤ m := hm
    refine ⟨_, (pss_cons (ps_asg (pe_op op_add (pe_ix ix_list (pv 0) pe_int (fun _ _ => rfl)) pe_int) (pg_sub (pv 0) pe_int set_list))
    (pss_cons (ps_set (i := 1) sc_Lnext.nd rfl (Or.inl rfl) (pe_ix ix_list (pv 0) pe_int (fun _ _ => rfl)))
    (pss_cons (ps_if (pt_val (pe_ix ix_list (pv 0) pe_int (fun _ _ => rfl)))
      (pss_cons (ps_set (i := 2) sc_Lnext.nd rfl (Or.inl rfl) (pe_op op_mod (pe_callTy cr_int (by rfl) T.n_int (by decide +kernel) (pa_cons (pe_ix ix_list (pv 0) pe_int (fun _ _ => rfl)) pa_nil)) (pe_op op_powG pe_int pe_int)))
      (pss_cons (ps_asg (pe_op op_fdiv (pe_ix ix_list (pv 0) pe_int (fun _ _ => rfl)) (pe_op op_powG pe_int pe_int)) (pg_sub (pv 0) pe_int set_list))
      (pss_one (ps_ret (pv 2)))))
      pss_nil)
    (pss_cons (ps_set (i := 2) sc_Lnext.nd rfl (Or.inl rfl) (pe_op op_mod (pe_callTy cr_int (by rfl) T.n_int (by decide +kernel) (pa_cons (pe_op op_mul (pe_op op_add (pe_op op_add (pe_op op_mod (pe_callTy cr_int (by rfl) T.n_int (by decide +kernel) (pa_cons (pe_ix ix_list (pv 0) pe_int (fun _ _ => rfl)) pa_nil)) pe_int) (pe_op op_mul (pe_op op_mul (pv 1) (pv 1)) pe_int)) (pv 1)) pe_int) pa_nil)) pe_int))
    (pss_cons (ps_set (i := 2) sc_Lnext.nd rfl (Or.inl rfl) (pe_op op_mod (pe_callTy cr_int (by rfl) T.n_int (by decide +kernel) (pa_cons (pe_op op_mul (pv 2) (pv 2)) pa_nil)) pe_int))
    (pss_one (ps_ret (pe_op op_fdiv (pe_op op_mod (pe_callTy cr_int (by rfl) T.n_int (by decide +kernel) (pa_cons (pe_op op_mul (pv 2) (pe_op op_add (pv 2) pe_int)) pa_nil)) pe_int) pe_int)))))))), ?_⟩
    rw [show start ["_law_draws_here", "_law_k", "_law_number"] [V.ref a] = [some (V.ref a), none, none] from rfl]
    walk_at "go"
    have e6 : (10 : Int) ^ Int.toNat 6 = 1000000 := rfl
    refine g_kB (fun e => ?_) (fun e => ?_)
    · subst e
      walk_at "go"
      rw [e6]
      exact q _ ((((Kp.refl _ _).mut (List.mem_singleton.mpr rfl) ha (ntb rfl))).mut (List.mem_singleton.mpr rfl) ha (ntb rfl)) upd_same
    · subst e
      walk_at "go"
      exact q _ (((Kp.refl _ _).mut (List.mem_singleton.mpr rfl) ha (ntb rfl))) upd_same
theorem ok_Lnext (T : Txt P K mg base) : FnG P w K mg base CX0 1 T.a_Lnext T.fd_Lnext ["_law_draws_here"] spNext :=
  (ok_nextX T).imp fun vs H Q E h => by
    obtain ⟨a, m, rfl, ⟨d, hd, hk⟩, hm, q⟩ := h
    exact ⟨a, m, d, rfl, hd, hk, hm, fun H' k e => q _ _ (nxV_nn d) (nxV_lt d) k ⟨_, e, hk.next⟩⟩
end
end Ap


namespace Ap
open PySem L2 PySem.Spec PyProof.Rows
def spLaw (K : PySem.W.Frag) (tb : List Addr) : Sp := fun vs H Q _ => ∃ (a : Addr) (ns : List Int), vs = [.ref a] ∧ SqL K H a (ns.map V.int) ∧ ns.length ≤ 63 ∧ Tabs tb H ∧ ∀ H', Q (.bl true) H'
/-- the same, the tables empty -/
def spLaw0 (K : PySem.W.Frag) (tb : List Addr) : Sp := fun vs H Q _ => ∃ (a : Addr) (ns : List Int), vs = [.ref a] ∧ SqL K H a (ns.map V.int) ∧ ns.length ≤ 63 ∧ (∀ b ∈ tb, H b = some (.tbl #[])) ∧ ∀ H', Q (.bl true) H'
theorem trip0 : TriplesOk (#[] : Array Value).toList := by
  first | trivial | exact .nil | constructor | decide
theorem Draws.kpS {S : List Addr} {a : Addr} {m : Nat} {H H' : Hp} (h : Draws a m H) (k : Kp S H H') (n : a ∉ S) : Draws a m H' := by
  obtain ⟨d, e, r⟩ := h
  exact ⟨d, k.lst n e, r⟩
theorem Kp.off {d : Addr} {H G G1 : Hp} (a : Kp [] H G) (b : Kp [d] G G1) (hd : H d = none) : Kp [] H G1 :=
  ⟨fun c o _ e t => b.keep c o (nin1 fun z => by rw [z, hd] at e; cases e) (a.keep c o nin0 e t) t, fun c ps e t => by
    obtain ⟨ps', e', t'⟩ := a.tbl c ps e t
    exact b.tbl c ps' e' t', fun c o e => by
    obtain ⟨o', e'⟩ := a.there c o e
    exact b.there c o' e', fun c q l t => b.lam c q l (a.lam c q l t)⟩
/-- the drawers dl in the list at D, all of them newer than H -/
structure DH (H : Hp) (dl : List Addr) (D : Addr) (M : Nat) (G : Hp) : Prop where
  kp : Kp [] H G
  l : G D = some (.lst (dl.map V.ref))
  ds : ∀ d ∈ dl, H d = none ∧ d ≠ D ∧ Draws d M G
theorem DH.step {H : Hp} {dl : List Addr} {D d : Addr} {M M' : Nat} {G G1 : Hp} (h : DH H dl D M G) (k : Kp [d] G G1) (dr : Draws d M' G1) (le : M ≤ M') (hd : d ∈ dl) : DH H dl D M' G1 := by
  obtain ⟨d1, d2, _⟩ := h.ds d hd
  refine ⟨h.kp.off k d1, k.lst (nin1 (Ne.symm d2)) h.l, fun e he => ?_⟩
  obtain ⟨a1, a2, a3⟩ := h.ds e he
  refine ⟨a1, a2, ?_⟩
  by_cases c : e = d
  · rw [c]; exact dr
  · exact (a3.mono le).kpS k (nin1 c)
theorem DH.keep {H : Hp} {dl : List Addr} {D : Addr} {M M' : Nat} {G G1 : Hp} (h : DH H dl D M G) (k : Kp [] G G1) (le : M ≤ M') : DH H dl D M' G1 :=
  ⟨h.kp.trans k, k.lst nin0 h.l, fun e he => ⟨(h.ds e he).1, (h.ds e he).2.1, ((h.ds e he).2.2.mono le).kp k⟩⟩
theorem cutI_from (xs : List Int) (k : Nat) {i : Int} (e : i = k) : cutV (xs.map V.int) (some i) none = (xs.drop k).map V.int := by rw [cut_from e, List.map_drop]
theorem cutI_to (xs : List Int) (k : Nat) {i : Int} (e : i = k) : cutV (xs.map V.int) none (some i) = (xs.take k).map V.int := by rw [cut_any e, List.map_take]
section
variable {K : PySem.W.Frag} {H : Hp} {Q : VK} {lo : Option Int}
theorem g_catI {l b : Addr} {xs zs : List Int} (e : H l = some (.lst (xs.map V.int))) (e2 : H b = some (.lst (zs.map V.int))) (h : xs.length + zs.length ≤ 1000000)
    (k : ∀ p G, H p = none → Kp [] H G → G p = some (.lst ((xs ++ zs).map V.int)) → Q (.ref p) G) : rCat (.ref l) (.ref b) H Q :=
  g_cat e e2 (by rw [List.length_map, List.length_map]; exact triv_sz h) fun p hp => k p _ hp (Kp.new hp) (by rw [List.map_append]; exact upd_same)
theorem g_evI {a : Addr} {xs : List Int} (n : Nat) (hk : loN lo n) (e : H a = some (.lst (xs.map V.int))) (hl : n ≤ xs.length) (k : ∀ p G, H p = none → Kp [] H G → G p = some (.lst ((evens (xs.drop n)).map V.int)) → Q (.ref p) G) : kS22 K (.ref a) Q lo H :=
  g_kS22 n hk e (by rw [List.length_map]; exact hl) fun p hp => k p _ hp (Kp.new hp) (by rw [← List.map_drop, evens_map]; exact upd_same)
end
theorem pairs_more {P : Addr → Prop} {G : Hp} {D e : Addr} {vs : List V} {ts : List Tie} {s : Tie} (hv : G D = some (.lst vs)) (hA : DaAll (fun b => P b ∧ b ≠ D) G vs (ts.map tieD)) (he : G e = none) (hp : P e) :
    DaAll (fun b => P b ∧ b ≠ D) (upd (upd G e (.lst [.int s.1, .int s.2])) D (.lst (vs ++ [.ref e]))) (vs ++ [.ref e]) ((ts ++ [s]).map tieD) := by
  have eD : e ≠ D := fun z => by rw [z, hv] at he; cases he
  rw [List.map_append]
  exact (((hA.fresh he).other fun b hb => hb.1.2).imp fun b hb => hb.1).append (.cons (.lst ⟨hp, eD⟩ (by rw [upd_ne eD]; exact upd_same) (.cons (.int _) (.cons (.int _) .nil))) .nil)
end Ap


namespace Ap
open PySem L2 PySem.Spec PyProof.Rows
/-- a value and whether it is a whole number -/
inductive Wh (K : PySem.W.Frag) (H : Hp) : V → Option Int → Prop
  | int (i : Int) : Wh K H (.int i) (some i)
  | bl (b : Bool) : Wh K H (.bl b) none
  | oth {v : V} {T : String} : TyX K H v (.type T) → kitB T "int" = some false → Wh K H v none
/-- 1 <= it <= n -/
def inI (o : Option Int) (n : Int) : Bool := match o with
  | some i => decide (1 ≤ i) && decide (i ≤ n)
  | none => false
def spWhole (K : PySem.W.Frag) : Sp := fun vs H Q _ => ∃ v o, vs = [v] ∧ Wh K H v o ∧ Q (.bl o.isSome) H
def spWithin (K : PySem.W.Frag) : Sp := fun vs H Q _ => ∃ v o n, vs = [v, .int n] ∧ Wh K H v o ∧ Q (.bl (inI o n)) H
section
variable {P : Program} {w : World} {K : PySem.W.Frag} {mg : Str → Option Value} {base : Heap}
theorem ok_is_whole (T : Txt P K mg base) : FnOk P w K mg base CX0 1 T.a_is_whole T.fd_is_whole ["thing"] (spWhole K) := by
  refine fnK_of0 T.F_is_whole sc_is_whole (fun vs H Q E h => ?_) (fun cdv A outer s H vs Q E hcd hr h => ?_)
  · obtain ⟨v, o, rfl, _⟩ := h
    rfl
  · obtain ⟨v, o, rfl, ho, q⟩ := h
    refine ⟨_, (pss_one (ps_ret (pe_and (pe_callB call_isi (by rfl) T.n_isinstance (by decide +kernel) (pa_cons (pv 0) (pa_cons (pe_bltn (v := .ty "int") (u := .type "int") rfl T.n_int (by decide +kernel) rfl) pa_nil))) (pe_one (pe_not (pe_callB call_isi (by rfl) T.n_isinstance (by decide +kernel) (pa_cons (pv 0) (pa_cons (pe_bltn (v := .ty "bool") (u := .type "bool") rfl T.n_bool (by decide +kernel) rfl) pa_nil)))))))), ?_⟩
    rw [show start ["thing"] [v] = [some (v)] from rfl]
    walk_at "go"
    cases ho with
    | int i =>
      refine g_isi (T' := "int") (.base (.int i)) (by decide +kernel : kitB "int" "int" = some true) ?_
      walk_at "go"
      refine g_isi (T' := "int") (.base (.int i)) (by decide +kernel : kitB "int" "bool" = some false) ?_
      walk_at "go"
      exact q
    | bl b =>
      refine g_isi (T' := "bool") (.base (.bl b)) (by decide +kernel : kitB "bool" "int" = some true) ?_
      walk_at "go"
      refine g_isi (T' := "bool") (.base (.bl b)) (by decide +kernel : kitB "bool" "bool" = some true) ?_
      walk_at "go"
      exact q
    | oth t k =>
      refine g_isi t k ?_
      walk_at "go"
      exact q
theorem ok_is_within (T : Txt P K mg base) : FnOk P w K mg base CX0 2 T.a_is_within T.fd_is_within ["thing", "most"] (spWithin K) := by
  refine fnK_of0 T.F_is_within sc_is_within (fun vs H Q E h => ?_) (fun cdv A outer s H vs Q E hcd hr h => ?_)
  · obtain ⟨v, o, n, rfl, _⟩ := h
    rfl
  · obtain ⟨v, o, n, rfl, ho, q⟩ := h
    refine ⟨_, (pss_one (ps_ret (pe_and (pe_call (ok_is_whole T) (hr.mono (by decide)) rfl T.m_is_whole T.F_is_whole.kp T.b_is_whole .nil pass0 (pa_cons (pv 0) pa_nil)) (pe_one (pe_chain op_le op_le pe_int (pv 0) (pv 1)))))), ?_⟩
    rw [show start ["thing", "most"] [v, .int n] = [some (v), some (.int n)] from rfl]
    walk_at "go"
    refine ⟨v, o, rfl, ho, ?_⟩
    cases ho with
    | int i =>
      walk_at "go"
      refine g_kT ?_
      walk_at "go"
      refine g_kD (fun e => ?_) (fun e => ?_)
      · walk_at "go"
        have : inI (some i) n = decide (i ≤ n) := by simp [inI, e]
        rw [this] at q
        exact q
      · walk_at "go"
        have : inI (some i) n = false := by simp [inI, e]
        rw [this] at q
        exact q
    | bl b =>
      walk_at "go"
      refine g_kF ?_
      walk_at "go"
      exact q
    | oth t k =>
      walk_at "go"
      refine g_kF ?_
      walk_at "go"
      exact q
end
end Ap


namespace Ap
open PySem L2 PySem.Spec PyProof.Rows
def spNxt : Sp := fun vs H Q _ => ∃ n c : Int, vs = [.int c, .int n] ∧ 0 < n ∧ Q (.int (nx n c)) H
/-- right ones: different numbers from 1 to n -/
def spWrong : Sp := fun vs H Q _ => ∃ (p : Addr) (ns : List Int) (n : Int), vs = [.ref p, .int n] ∧ H p = some (.lst (ns.map V.int)) ∧ ns.length ≤ 1000 ∧ ns.Nodup ∧ (∀ x ∈ ns, 1 ≤ x ∧ x ≤ n) ∧ ∀ H', Kp [] H H' → Q .non H'
def spOrderOf : Sp := fun vs H Q _ => ∃ (p : Addr) (ns : List Int) (n : Nat), vs = [.ref p, .int n] ∧ H p = some (.lst (ns.map V.int)) ∧ n ≤ 40 ∧ Stand n ns ∧ ∀ H', Kp [] H H' → Q .non H'
def spStanding : Sp := fun vs H Q _ => ∃ (p : Addr) (ns : List Int) (n : Nat), vs = [.int n, .ref p] ∧ H p = some (.lst (ns.map V.int)) ∧ n ≤ 40 ∧ Stand n ns ∧ ∀ H', Kp [] H H' → Q .non H'
def spCalls : Sp := fun vs H Q _ => ∃ (p : Addr) (ns : List Int) (n : Nat), vs = [.int n, .ref p] ∧ H p = some (.lst (ns.map V.int)) ∧ (∀ c ∈ ns, c ∈ up n) ∧ ∀ H', Kp [] H H' → Q .non H'
section
variable {P : Program} {w : World} {K : PySem.W.Frag} {mg : Str → Option Value} {base : Heap}
theorem ok_next_round (T : Txt P K mg base) : FnOk P w K mg base CX0 1 T.a_next_round T.fd_next_round ["number", "count"] spNxt := by
  refine fnK_of0 T.F_next_round sc_next_round (fun vs H Q E h => ?_) (fun cdv A outer s H vs Q E hcd hr h => ?_)
  · obtain ⟨n, c, rfl, _⟩ := h
    rfl
  · obtain ⟨n, c, rfl, h0, q⟩ := h
    refine ⟨_, (pss_one (ps_ret (pe_op op_add (pe_op op_mod (pv 0) (pv 1)) pe_int))), ?_⟩
    rw [show start ["number", "count"] [.int c, .int n] = [some (.int c), some (.int n)] from rfl]
    walk_at "go"
    exact q
theorem ok_wrong_place (T : Txt P K mg base) : FnOk P w K mg base CX0 3 T.a_wrong_place T.fd_wrong_place ["things", "count"] spWrong := by
  refine fnK_of0 T.F_wrong_place sc_wrong_place (fun vs H Q E h => ?_) (fun cdv A outer s H vs Q E hcd hr h => ?_)
  · obtain ⟨p, ns, n, rfl, _⟩ := h
    rfl
  · obtain ⟨p, ns, n, rfl, hp, few, nd, hin, q⟩ := h
    refine ⟨_, (pss_cons (ps_set (i := 2) sc_wrong_place.nd rfl (Or.inl rfl) (pe_callTy0 cr_set0 (by rfl) T.n_set (by decide +kernel)))
    (pss_cons (ps_for PassesOwn.never rfl (pi_enum (by rfl) T.n_enumerate (pa_cons (pv 0) pa_nil)) (pg_tup rfl (pgs_cons (pg_name (i := 3) sc_wrong_place.nd rfl (Or.inl rfl)) (pgs_cons (pg_name (i := 4) sc_wrong_place.nd rfl (Or.inl rfl)) pgs_nil)))
      (pss_cons (ps_if (PW.pt (pw_or (pt_not (pt_val (pe_call (ok_is_within T) (hr.mono (by decide)) rfl T.m_is_within T.F_is_within.kp T.b_is_within .nil pass0 (pa_cons (pv 4) (pa_cons (pv 1) pa_nil))))) (pw_or1 (pt_cmpR or_sin (pv 4) (pv 2) (by rfl)))))
        (pss_one (ps_ret (pv 3)))
        pss_nil)
      (pss_one (ps_expr (pe_sadd (pv 2) (pa_cons (pv 4) pa_nil))))))
    (pss_one (ps_ret pe_non)))), ?_⟩
    rw [show start ["things", "count", "seen", "index", "thing"] [.ref p, .int n] = [some (.ref p), some (.int n), none, none, none] from rfl]
    walk_at "go"
    refine ⟨rfl, fun S hS => ?_⟩
    walk_at "go"
    refine g_it (walk_enum (xs := ns.map V.int)) (fun i σ' H' => ∃ x3 x4 k, ∃ f : Int → Bool, σ' = [some (.ref p), some (.int n), some (.ref S), x3, x4] ∧ Kp [] H H' ∧ H' S = some (SetO w S f k) ∧ k ≤ i ∧ ∀ j, f j = decide (j ∈ ns.take i))
      ⟨_, _, 0, _, rfl, (Kp.refl _ _).put hS, upd_same, Nat.le_refl _, fun j => by simp⟩ (fun i σ' H' _ h => ?_) ?_ ?_
    · obtain ⟨_, _, _, _, _, hK, _⟩ := h
      exact SqL.of (hK.lst nin0 hp)
    · rintro i x σ' H' H'' hi ⟨x3, x4, k, f, rfl, hK, hSet, hk, hf⟩ ⟨Tp, xi, y, rfl, hTp, rfl, hx1, hx2⟩
      cases hx1
      have hx2 : (ns.map V.int)[i]? = some y := hx2
      rw [List.getElem?_map] at hx2
      obtain ⟨z, hz, rfl⟩ := Option.map_eq_some_iff.mp hx2
      have b := hin z (List.mem_of_getElem? hz)
      have fz : f z = false := by rw [hf, decide_eq_false (not_mem_take nd hz)]
      have ST : S ≠ Tp := ne_of_none hSet hTp
      rw [List.length_map] at hi
      walk_at "go"
      refine ⟨.int z, some z, n, rfl, .int z, ?_⟩
      rw [show inI (some z) n = true by simp [inI, b.1, b.2]]
      walk_at "go"
      refine ⟨z, S, f, k, rfl, rfl, by walk_at "look", ?_⟩
      rw [fz]
      walk_at "go"
      refine g_kSad (S := f) (n := k) (by walk_at "look") ?_
      walk_at "go"
      refine g_sadd (S := f) (n := k) (by walk_at "look") (by omega) ?_
      walk_at "go"
      refine ⟨_, _, _, _, rfl, (hK.put (hK.free hTp)).put hS (NC.setO (by walk_at "look")), upd_same, ?_, fun j => ?_⟩
      · split <;> omega
      · rw [hf, take_succ' hz]
        simp [Bool.or_comm]
    · rintro σ' H' ⟨x3, x4, k, f, rfl, hK, hSet, hk, hf⟩
      walk_at "go"
      exact q _ hK
theorem ok_check_order_of (T : Txt P K mg base) : FnOk P w K mg base CX0 4 T.a_check_order_of T.fd_check_order_of ["order", "count"] spOrderOf := by
  refine fnK_of0 T.F_check_order_of sc_check_order_of (fun vs H Q E h => ?_) (fun cdv A outer s H vs Q E hcd hr h => ?_)
  · obtain ⟨p, ns, n, rfl, _⟩ := h
    rfl
  · obtain ⟨p, ns, n, rfl, hp, n2, hS, q⟩ := h
    have ln := hS.length
    refine ⟨_, (pss_cons (ps_if (PW.pt (pw_or (pt_not (pt_val (pe_callB call_isi (by rfl) T.n_isinstance (by decide +kernel) (pa_cons (pv 0) (pa_cons (pe_bltn (v := .ty "list") (u := .type "list") rfl T.n_list (by decide +kernel) rfl) pa_nil))))) (pw_or1 (pt_cmpR op_ne (pe_callB cr_len (by rfl) T.n_len (by decide +kernel) (pa_cons (pv 0) pa_nil)) (pv 1) (nomark _)))))
      (pss_one ps_never)
      pss_nil)
    (pss_cons (ps_set (i := 2) sc_check_order_of.nd rfl (Or.inl rfl) (pe_call (ok_wrong_place T) (hr.mono (by decide)) rfl T.m_wrong_place T.F_wrong_place.kp T.b_wrong_place .nil pass0 (pa_cons (pv 0) (pa_cons (pv 1) pa_nil))))
    (pss_one (ps_if (pt_cmpR op_notN (pv 2) pe_non (nomark _))
      (pss_one ps_never)
      pss_nil)))), ?_⟩
    rw [show start ["order", "count", "index"] [.ref p, .int n] = [some (.ref p), some (.int n), none] from rfl]
    walk_at "go"
    refine g_isi (T' := "list") (.base (.lst hp)) (by decide +kernel : kitB "list" "list" = some true) ?_
    walk_at "go"
    rw [List.length_map, ln]
    refine g_kNX rfl ?_
    walk_at "go"
    refine ⟨p, ns, n, rfl, hp, by omega, hS.nodup, fun x hx => up_mem.mp (hS.mem.mp hx), fun H' hK => ?_⟩
    walk_at "go"
    refine ⟨rfl, ?_⟩
    walk_at "go"
    refine g_kNX rfl ?_
    walk_at "go"
    exact q H' hK
theorem ok_check_standing (T : Txt P K mg base) : FnOk P w K mg base CX0 4 T.a_check_standing T.fd_check_standing ["seats", "standing"] spStanding := by
  refine fnK_of0 T.F_check_standing sc_check_standing (fun vs H Q E h => ?_) (fun cdv A outer s H vs Q E hcd hr h => ?_)
  · obtain ⟨p, ns, n, rfl, _⟩ := h
    rfl
  · obtain ⟨p, ns, n, rfl, hp, n2, hS, q⟩ := h
    have ln := hS.length
    refine ⟨_, (pss_cons (ps_if (PW.pt (pw_or (pt_not (pt_val (pe_callB call_isi (by rfl) T.n_isinstance (by decide +kernel) (pa_cons (pv 1) (pa_cons (pe_bltn (v := .ty "list") (u := .type "list") rfl T.n_list (by decide +kernel) rfl) pa_nil))))) (pw_or1 (pt_cmpR op_ne (pe_callB cr_len (by rfl) T.n_len (by decide +kernel) (pa_cons (pv 1) pa_nil)) (pv 0) (nomark _)))))
      (pss_one ps_never)
      pss_nil)
    (pss_cons (ps_set (i := 2) sc_check_standing.nd rfl (Or.inl rfl) (pe_call (ok_wrong_place T) (hr.mono (by decide)) rfl T.m_wrong_place T.F_wrong_place.kp T.b_wrong_place .nil pass0 (pa_cons (pv 1) (pa_cons (pv 0) pa_nil))))
    (pss_one (ps_if (pt_cmpR op_notN (pv 2) pe_non (nomark _))
      (pss_one ps_never)
      pss_nil)))), ?_⟩
    rw [show start ["seats", "standing", "index"] [.int n, .ref p] = [some (.int n), some (.ref p), none] from rfl]
    walk_at "go"
    refine g_isi (T' := "list") (.base (.lst hp)) (by decide +kernel : kitB "list" "list" = some true) ?_
    walk_at "go"
    rw [List.length_map, ln]
    refine g_kNX rfl ?_
    walk_at "go"
    refine ⟨p, ns, n, rfl, hp, by omega, hS.nodup, fun x hx => up_mem.mp (hS.mem.mp hx), fun H' hK => ?_⟩
    walk_at "go"
    refine ⟨rfl, ?_⟩
    walk_at "go"
    refine g_kNX rfl ?_
    walk_at "go"
    exact q H' hK

end
end Ap


namespace Ap
open PySem L2 PySem.Spec PyProof.Rows
/-- a value that is no reference and whether it is a whole number -/
inductive Fw : V → Option Int → Prop
  | int (i : Int) : Fw (.int i) (some i)
  | bl (b : Bool) : Fw (.bl b) none
  | non : Fw .non none
  | str (x : Str) : Fw (.str x) none
  | flt (x : UInt64) : Fw (.flt x) none
theorem Fw.wh {K : PySem.W.Frag} {H : Hp} {v : V} {o : Option Int} (h : Fw v o) : Wh K H v o := by
  cases h with
  | int i => exact .int i
  | bl b => exact .bl b
  | non => exact .oth (.base .non) (by decide +kernel : kitB "NoneType" "int" = some false)
  | str x => exact .oth (.base (.str x)) (by decide +kernel : kitB "str" "int" = some false)
  | flt x => exact .oth (.base (.flt x)) (by decide +kernel : kitB "float" "int" = some false)
theorem Fw.kit {K : PySem.W.Frag} {v : V} {u : Value} {o : Option Int} (h : Fw v o) (r : RelV v u) :
    (∃ i t, u = .int i t ∧ o = some i) ∨ (o = none ∧ ∃ T', PySem.W.KitX K u (.type T') (fun _ => True) ∧ u ≠ .builtin "__main__.__loader__#opaque" ∧ (kitB T' "int" = some false ∨ (kitB T' "int" = some true ∧ kitB T' "bool" = some true))) := by
  cases h with
  | int i => obtain ⟨t, e⟩ := (show ∃ t, u = Value.int i t from r); exact .inl ⟨i, t, e, rfl⟩
  | bl b => cases (show u = Value.bool b from r); exact .inr ⟨rfl, _, PySem.W.kitx_bool, fun z => (nomatch z), .inr ⟨by decide +kernel, by decide +kernel⟩⟩
  | non => cases (show u = Value.none from r); exact .inr ⟨rfl, _, PySem.W.kitx_none, fun z => (nomatch z), .inl (by decide +kernel)⟩
  | str x => obtain ⟨t, e⟩ := (show ∃ t, u = Value.str x t from r); cases e; exact .inr ⟨rfl, _, PySem.W.kitx_str, fun z => (nomatch z), .inl (by decide +kernel)⟩
  | flt x => obtain ⟨t, e⟩ := (show ∃ t, u = Value.float x t from r); cases e; exact .inr ⟨rfl, _, PySem.W.kitx_float, fun z => (nomatch z), .inl (by decide +kernel)⟩
section
variable {P : Program} {w : World} {K : PySem.W.Frag} {mg : Str → Option Value} {base : Heap}
theorem qf_whole (T : Txt P K mg base) {v : V} {u : Value} {o : Option Int} (h : Fw v o) (r : RelV v u) : QF P w K mg 1 T.a_is_whole [u] (fun _ => True) (· = .bool o.isSome) := by
  refine qf_ret T.F_is_whole rfl rfl rfl (by decide) T.b_is_whole rfl rfl (fun _ _ _ _ => trivial) (fun B env hd hdp e1 e2 e3 => ?_) (by decide)
  have ok := bq_ok (P := P) (w := w) (K := K) (mg := mg) (ps := ["thing"]) (us := [u]) (pre := fun _ => True) (B := B) (fun _ _ _ _ => trivial) e1 rfl e2 e3
  have th : ∀ p, QE (bq P w K mg ["thing"] [u] (fun _ => True) env B) (.Name "thing" p) (· = u) := fun p => bq_par ok e1 rfl List.mem_cons_self
  rcases h.kit (K := K) r with ⟨i, t, rfl, rfl⟩ | ⟨rfl, T', Z, nx, ti | ⟨ti, tb⟩⟩
  · exact q_and (a := true) ok (q_isi ok (th _) PySem.W.kitx_int (fun _ _ => trivial) (by decide +kernel : kitB "int" "int" = some true) (fun z => nomatch z) (bq_glob e1 rfl) T.n_isinstance (bq_glob e1 rfl) T.n_int (by decide +kernel) rfl)
      (fun _ => q_not (a := false) (q_isi ok (th _) PySem.W.kitx_int (fun _ _ => trivial) (by decide +kernel : kitB "int" "bool" = some false) (fun z => nomatch z) (bq_glob e1 rfl) T.n_isinstance (bq_glob e1 rfl) T.n_bool (by decide +kernel) rfl) rfl) (fun z => nomatch z)
  · exact q_and (a := false) ok (q_isi ok (th _) Z (fun _ _ => trivial) ti nx (bq_glob e1 rfl) T.n_isinstance (bq_glob e1 rfl) T.n_int (by decide +kernel) rfl) (fun z => nomatch z) (fun _ => rfl)
  · exact q_and (a := true) ok (q_isi ok (th _) Z (fun _ _ => trivial) ti nx (bq_glob e1 rfl) T.n_isinstance (bq_glob e1 rfl) T.n_int (by decide +kernel) rfl)
      (fun _ => q_not (a := true) (q_isi ok (th _) Z (fun _ _ => trivial) tb nx (bq_glob e1 rfl) T.n_isinstance (bq_glob e1 rfl) T.n_bool (by decide +kernel) rfl) rfl) (fun z => nomatch z)
theorem qf_within (T : Txt P K mg base) {v : V} {u : Value} {o : Option Int} {n : Int} {tn : Tok} (h : Fw v o) (r : RelV v u) : QF P w K mg 2 T.a_is_within [u, .int n tn] (fun _ => True) (· = .bool (inI o n)) := by
  refine qf_ret T.F_is_within rfl rfl rfl (by decide) T.b_is_within rfl rfl (fun _ _ _ _ => trivial) (fun B env hd hdp e1 e2 e3 => ?_) (by decide)
  have ok := bq_ok (P := P) (w := w) (K := K) (mg := mg) (ps := ["thing", "most"]) (us := [u, .int n tn]) (pre := fun _ => True) (B := B) (fun _ _ _ _ => trivial) e1 rfl e2 e3
  have th : ∀ p, QE (bq P w K mg ["thing", "most"] [u, .int n tn] (fun _ => True) env B) (.Name "thing" p) (· = u) := fun p => bq_par ok e1 rfl List.mem_cons_self
  have mo : ∀ p, QE (bq P w K mg ["thing", "most"] [u, .int n tn] (fun _ => True) env B) (.Name "most" p) (· = .int n tn) := fun p => bq_par ok e1 rfl (List.mem_cons_of_mem _ List.mem_cons_self)
  refine q_and (a := o.isSome) ok (q_call1 ok hd hdp (qf_whole T h r) (fun _ _ => trivial) (bq_glob e1 rfl) T.m_is_whole T.F_is_whole.kp (th _)) (fun e => ?_) (fun e => ?_)
  · obtain ⟨i, rfl⟩ := Option.isSome_iff_exists.mp e
    cases h
    obtain ⟨t, rfl⟩ := (show ∃ t, u = Value.int i t from r)
    have im : ∀ {e : Expr} {j : Int} {t : Tok}, QE (bq P w K mg ["thing", "most"] [.int i t, .int n tn] (fun _ => True) env B) e (· = .int j t) → True := fun _ => trivial
    refine q_le2 (i := 1) (j := i) (k := n) ok (q_int fun t => ⟨t, rfl⟩) (fun E s g => wpAny_mono (th _ E s g) (fun y s' z => ⟨⟨t, z.1⟩, z.2⟩) fun _ _ z => z) (fun E s g => wpAny_mono (mo _ E s g) (fun y s' z => ⟨⟨tn, z.1⟩, z.2⟩) fun _ _ z => z) rfl
  · cases o with
    | none => rfl
    | some _ => cases e
/-- what the element is_within(seat, seats) says -/
def CnW (i : Nat) : L2.St → Hp → V → (Value → Prop) → Prop := fun σ _ w R => ∃ n o, σ[i]? = some (some (.int n)) ∧ Fw w o ∧ ∀ y, y = .bool (inI o n) → R y
theorem el_within {X : Cx} (T : Txt X.prog X.K X.mg X.base) (hr : Room 2 X.A) (gl : X.env.globals = mainGlobals) {scope : Scope} {tab : Addr} {i : Nat} {p1 p2 p3 pos : Pos} (hk : scope.kind = .function) (k1 : scope.names.lookup ("seat" : Str) = some .local) (k2 : scope.names.lookup ("seats" : Str) = some .free) (k3 : scope.names.lookup ("is_within" : Str) = some .globalImplicit)
    (hN : X.N[i]? = some "seats") (hv : X.env.scope.names.lookup ("seats" : Str) = some .cell) (hc : ∀ cells : List (Str × Addr), (cloFrom cells scope.names []).lookup ("seats" : Str) = some ((cells.lookup ("seats" : Str)).getD 0)) :
    EltL X scope "seat" tab (.Call (.Name "is_within" p1) [.Name "seat" p2, .Name "seats" p3] [] pos) (CnW i) := by
  intro pins σ H s I ⟨ps, hT⟩ w R hC u ru C code A h1 h2 h3
  obtain ⟨n, o, hn, hf, hR⟩ := hC
  obtain ⟨m, hm, hl⟩ := I.loc
  obtain ⟨u', ru', lk⟩ := hl i _ _ hN hn (.inr (.inl hv))
  obtain ⟨tn, rfl⟩ := (show ∃ t, u' = Value.int n t from ru')
  rcases lk with ⟨z, _⟩ | ⟨_, c, hcl, isc⟩
  · have z2 : X.env.kindOf ("seats" : Str) = some .cell := hv
    rw [z2] at z
    cases z
  have ok := qxOf_ok (X := X) gl hk (x := "seat") (P := tab) (h1 := s.heap) (C := C) (code := code) (v := u) (A := A)
  have cT : c ≠ tab := fun z => by
    have := I.freeC _ c hcl
    rw [z, hT] at this
    cases this
  have seat : QE (qxOf X scope "seat" tab s.heap C code u A) (.Name "seat" p2) (· = u) := q_loc ok k1 (fun h g => g.2.2) rfl
  have seats : QE (qxOf X scope "seat" tab s.heap C code u A) (.Name "seats" p3) (· = .int n tn) := q_free ok (c := c) k2 (by
    show (cloFrom X.env.cells scope.names []).lookup ("seats" : Str) = some c
    rw [hc, hcl]; rfl) (fun h g => by
      obtain ⟨ob, ho, hd⟩ := isc
      exact ⟨ob, g.2.1 c ob cT ho, hd⟩) rfl
  have dp := hr.dp
  have cl : QE (qxOf X scope "seat" tab s.heap C code u A) (.Call (.Name "is_within" p1) [.Name "seat" p2, .Name "seats" p3] [] pos) (· = .bool (inI o n)) :=
    q_call2 ok h1 (by show A.depth + 2 < _; omega) (qf_within T hf ru) (fun _ _ => trivial) k3 T.m_is_within T.F_is_within.kp seat seats
  exact fun E s g => wpAny_mono (cl E s g) (fun y s' z => ⟨hR y z.1, z.2⟩) fun _ _ z => z
end
end Ap


namespace Ap
open PySem L2 PySem.Spec PyProof.Rows
/-- a net's ties are passed -/
abbrev Nt (H : Hp) (v : V) (ts : List Tie) : Prop := Da (fun _ => True) H v (netD ts)
theorem Nt.kp {H H' : Hp} {v : V} {ts : List Tie} (h : Nt H v ts) (k : Kp [] H H') : Nt H' v ts := h.keep k (fun _ _ => nin0) fun _ h => h
def tkey (t : Tie) : List Int := [min t.1 t.2, max t.1 t.2]
theorem tkey_apart {s t : Tie} (h : Apart s t) : tkey s ≠ tkey t := fun e => by
  unfold tkey at e
  simp only [List.cons.injEq, and_true] at e
  obtain ⟨h1, h2⟩ := h
  omega
def spSeats : Sp := fun vs H Q _ => ∃ n : Nat, vs = [.int n] ∧ 3 ≤ n ∧ n ≤ 40 ∧ Q .non H
def spTies (tb : List Addr) : Sp := fun vs H Q _ => ∃ (n : Nat) (ts : List Tie) (v : V), vs = [.int n, v] ∧ NetS (up n) ts ∧ ts.length ≤ 900 ∧ Nt H v ts ∧ Tabs tb H ∧ ∀ H', Kp [] H H' → Q .non H'
section
variable {P : Program} {w : World} {K : PySem.W.Frag} {mg : Str → Option Value} {base : Heap}
theorem ok_check_seats (T : Txt P K mg base) : FnOk P w K mg base CX0 3 T.a_check_seats T.fd_check_seats ["seats"] spSeats := by
  refine fnK_of0 T.F_check_seats sc_check_seats (fun vs H Q E h => ?_) (fun cdv A outer s H vs Q E hcd hr h => ?_)
  · obtain ⟨n, rfl, _⟩ := h
    rfl
  · obtain ⟨n, rfl, n1, n2, q⟩ := h
    refine ⟨_, (pss_one (ps_if (PW.pt (pw_or (pt_not (pt_val (pe_call (ok_is_within T) (hr.mono (by decide)) rfl T.m_is_within T.F_is_within.kp T.b_is_within .nil pass0 (pa_cons (pv 0) (pa_cons (pe_glob (v := .int 40) rfl T.v_MOST_SEATS ⟨_, rfl⟩) pa_nil))))) (pw_or1 (pt_cmpR op_lt (pv 0) (pe_glob (v := .int 3) rfl T.v_FEWEST_SEATS ⟨_, rfl⟩) (nomark _)))))
      (pss_one ps_never)
      pss_nil)), ?_⟩
    rw [show start ["seats"] [.int n] = [some (.int n)] from rfl]
    walk_at "go"
    refine ⟨_, _, _, rfl, .int _, ?_⟩
    walk_at "go"
    refine g_kX (by simp [inI]; omega) ?_
    walk_at "go"
    refine g_kDX (by omega) ?_
    walk_at "go"
    exact q
theorem ok_check_ties (T : Txt P K mg base) : FnOk P w K mg base CX0 4 T.a_check_ties T.fd_check_ties ["seats", "ties"] (spTies T.tbs) := by
  refine fnK_of0 T.F_check_ties sc_check_ties (fun vs H Q E h => ?_) (fun cdv A outer s H vs Q E hcd hr h => ?_)
  · obtain ⟨n, ts, p, rfl, _⟩ := h
    rfl
  · obtain ⟨n, ts, v, rfl, hS, few, hN, hT, q⟩ := h
    obtain ⟨p, xs, rfl, -, hp, hD⟩ := hN.list_inv
    refine ⟨_, (pss_cons (ps_if (pt_not (pt_val (pe_callB call_isi (by rfl) T.n_isinstance (by decide +kernel) (pa_cons (pv 1) (pa_cons (pe_bltn (v := .ty "list") (u := .type "list") rfl T.n_list (by decide +kernel) rfl) pa_nil)))))
      (pss_one ps_never)
      pss_nil)
    (pss_cons (ps_set (i := 2) sc_check_ties.nd rfl (Or.inl rfl) (pe_callTy0 Sx.cr_newI (by rfl) T.n_set (by decide +kernel)))
    (pss_one (ps_for PassesOwn.never rfl (pi_enum (by rfl) T.n_enumerate (pa_cons (pv 1) pa_nil)) (pg_tup rfl (pgs_cons (pg_name (i := 3) sc_check_ties.nd rfl (Or.inl rfl)) (pgs_cons (pg_name (i := 4) sc_check_ties.nd rfl (Or.inl rfl)) pgs_nil)))
      (pss_cons (ps_if (PW.pt (pw_or (pt_not (pt_val (pe_callB call_isi (by rfl) T.n_isinstance (by decide +kernel) (pa_cons (pv 4) (pa_cons (pe_bltn (v := .ty "list") (u := .type "list") rfl T.n_list (by decide +kernel) rfl) pa_nil))))) (pw_or (pt_cmpR op_ne (pe_callB cr_len (by rfl) T.n_len (by decide +kernel) (pa_cons (pv 4) pa_nil)) pe_int (nomark _)) (pw_or1 (pt_not (pt_val (pe_allL (P := T.p_check_ties) hr rfl T.n_all T.TB_check_ties (hcd.symm.trans T.k_check_ties) (gs_of rfl rfl (by decide) rfl rfl (by decide)) (pv 4) (el_within T (hr.mono (by decide)) rfl rfl rfl rfl rfl (i := 0) rfl rfl (fun _ => rfl)) (fun _ => rfl))))))))
        (pss_one ps_never)
        pss_nil)
      (pss_cons (ps_if (PW.pt (pw_or (pt_cmpR op_eq (pe_ix ix_list (pv 4) pe_int (fun _ _ => rfl)) (pe_ix ix_list (pv 4) pe_int (fun _ _ => rfl)) (nomark _)) (pw_or1 (pt_cmpR (Sx.op_inI hr.u64) (pe_tup (pa_cons (pe_callB (cr_min rfl) (by rfl) T.n_min (by decide +kernel) (pa_cons (pv 4) pa_nil)) (pa_cons (pe_callB (cr_max rfl) (by rfl) T.n_max (by decide +kernel) (pa_cons (pv 4) pa_nil)) pa_nil))) (pv 2) (by rfl)))))
        (pss_one ps_never)
        pss_nil)
      (pss_one (ps_expr (Sx.pe_addI hr.u64 (pv 2) (pa_cons (pe_tup (pa_cons (pe_callB (cr_min rfl) (by rfl) T.n_min (by decide +kernel) (pa_cons (pv 4) pa_nil)) (pa_cons (pe_callB (cr_max rfl) (by rfl) T.n_max (by decide +kernel) (pa_cons (pv 4) pa_nil)) pa_nil))) pa_nil)))))))))), ?_⟩
    rw [show start ["seats", "ties", "seen", "index", "tie"] [.int n, .ref p] = [some (.int n), some (.ref p), none, none, none] from rfl]
    walk_at "go"
    refine g_isi (T' := "list") (.base (.lst hp)) (by decide +kernel : kitB "list" "list" = some true) ?_
    walk_at "go"
    refine ⟨rfl, fun S hSn => ?_⟩
    walk_at "go"
    have hS0 : H S = none := hSn
    refine g_it (walk_enum (xs := xs)) (fun i σ' H' => ∃ x3 x4 L, σ' = [some (.int n), some (.ref p), some (.ref S), x3, x4] ∧ Kp [] H H' ∧ H' S = some (Sx.SetI P w S L) ∧ Sx.Tups K H' L ∧ L.length ≤ i ∧ ∀ e ∈ L, ∃ t ∈ ts.take i, e.2 = tkey t)
      ⟨_, _, [], rfl, (Kp.refl _ _).put hS0, upd_same, fun _ z => (nomatch z), Nat.le_refl _, fun _ z => (nomatch z)⟩ (fun i σ' H' _ h => ?_) ?_ ?_
    · obtain ⟨_, _, _, _, hK, _⟩ := h
      exact SqL.of (hK.lst nin0 hp)
    · rintro i x σ' H' H'' hi ⟨x3, x4, L, rfl, hK, hSet, hTu, hLn, hLm⟩ ⟨Tp, xi, y, rfl, hTp, rfl, hx1, hx2⟩
      cases hx1
      have hp' : H' p = some (.lst xs) := hK.lst nin0 hp
      obtain ⟨d, hd, hy⟩ := hD.getV hx2
      rw [List.getElem?_map] at hd
      obtain ⟨t, ht, rfl⟩ := Option.map_eq_some_iff.mp hd
      have hy := hy.keep (hK.put (hK.free hTp) : Kp [] H (upd H' Tp (.tup [.int (i : Nat), y]))) (fun _ _ => nin0) (fun _ h => h)
      obtain ⟨q1, rfl, -, hq⟩ := Da.ints_inv (ns := [t.1, t.2]) hy
      have tin := List.mem_of_getElem? ht
      obtain ⟨m1, m2, ne⟩ := hS.mem t tin
      have b1 := up_mem.mp m1
      have b2 := up_mem.mp m2
      walk_at "go"
      refine g_isi (T' := "list") (.base (.lst hq)) (by decide +kernel : kitB "list" "list" = some true) ?_
      walk_at "go"
      refine g_kNX rfl ?_
      walk_at "go"
      have k1 : Kp [] H (upd H' Tp (.tup [.int (i : Nat), .ref q1])) := hK.put (hK.free hTp)
      have ST : S ≠ Tp := ne_of_none hSet hTp
      refine ⟨q1, [.int t.1, .int t.2], fun _ => true, rfl, SqL.of hq, fun w' hw' => ?_, k1.tabs hT T.p_check_ties List.mem_cons_self, fun H2 hT2 => ?_⟩
      · have one : ∀ j : Int, 1 ≤ j → j ≤ n → CnW 0 [some (.int n), some (.ref p), some (.ref S), some (.int (i : Nat)), some (.ref q1)] (upd H' Tp (.tup [.int (i : Nat), .ref q1])) (.int j) (· = .bool true) := fun j j1 j2 =>
          ⟨n, some j, rfl, .int j, fun y e => by
            have : inI (some j) n = true := by simp [inI, j1, j2]
            rw [this] at e
            exact e⟩
        rcases List.mem_cons.mp hw' with rfl | hw'
        · exact one _ b1.1 b1.2
        · obtain rfl := List.mem_singleton.mp hw'
          exact one _ b2.1 b2.2
      have k2 : Kp [] (upd H' Tp (.tup [.int (i : Nat), .ref q1])) H2 := Kp.tabbed T.lg_check_ties (k1.tabs hT T.p_check_ties List.mem_cons_self) hT2
      have hS2 : H2 S = some (Sx.SetI P w S L) := k2.look nin0 (by rw [upd_ne ST]; exact hSet) (ntb rfl)
      have hq2 : H2 q1 = some (.lst [.int t.1, .int t.2]) := k2.lst nin0 hq
      have kk : Kp [] H' H2 := ((Kp.refl _ _).put hTp).trans k2
      have hTu2 : Sx.Tups K H2 L := Sx.Tups.kp hTu kk
      walk_at "go"
      refine g_kX rfl ?_
      walk_at "go"
      refine g_kDX ne ?_
      walk_at "go"
      refine ⟨q1, [t.1, t.2], rfl, SqL.of hq2, Nat.succ_pos _, fun a ha1 ha2 => ?_⟩
      obtain rfl : a = min t.1 t.2 := by
        have := ha2 t.1 (by simp)
        have := ha2 t.2 (by simp)
        simp at ha1
        omega
      walk_at "go"
      refine ⟨q1, [t.1, t.2], rfl, SqL.of hq2, Nat.succ_pos _, fun b hb1 hb2 => ?_⟩
      obtain rfl : b = max t.1 t.2 := by
        have := hb2 t.1 (by simp)
        have := hb2 t.2 (by simp)
        simp at hb1
        omega
      walk_at "go"
      rename_i W hW
      have nm : tkey t ∉ L.map (·.2) := fun z => by
        obtain ⟨e, he, ee⟩ := List.mem_map.mp z
        obtain ⟨t0, ht0, et⟩ := hLm e he
        obtain ⟨j, hj, rfl⟩ := List.getElem_of_mem ht0
        rw [List.length_take] at hj
        rw [List.getElem_take] at et
        have il := (List.getElem?_eq_some_iff.mp ht)
        obtain ⟨il, et2⟩ := il
        have ap := List.pairwise_iff_getElem.mp hS.ap j i (by omega) il (by omega)
        rw [et2] at ap
        exact tkey_apart ap (et.symm.trans ee)
      have kW : Kp [] H' (upd H2 W (.tup [.int (min t.1 t.2), .int (max t.1 t.2)])) := kk.put (kk.free hW)
      refine ⟨W, S, tkey t, L, rfl, rfl, SqT.of upd_same, by walk_at "look", hTu.kp kW, ?_⟩
      walk_at "go"
      refine g_kDX nm ?_
      walk_at "go"
      refine ⟨q1, [t.1, t.2], rfl, SqL.of (by walk_at "look"), Nat.succ_pos _, fun a ha1 ha2 => ?_⟩
      obtain rfl : a = min t.1 t.2 := by
        have := ha2 t.1 (by simp)
        have := ha2 t.2 (by simp)
        simp at ha1
        omega
      walk_at "go"
      refine ⟨q1, [t.1, t.2], rfl, SqL.of (by walk_at "look"), Nat.succ_pos _, fun b hb1 hb2 => ?_⟩
      obtain rfl : b = max t.1 t.2 := by
        have := hb2 t.1 (by simp)
        have := hb2 t.2 (by simp)
        simp at hb1
        omega
      walk_at "go"
      rename_i W2 hW2
      have kW2 := kW.put (o := .tup [.int (min t.1 t.2), .int (max t.1 t.2)]) (kW.free hW2)
      have S2 : (upd (upd H2 W (.tup [.int (min t.1 t.2), .int (max t.1 t.2)])) W2 (.tup [.int (min t.1 t.2), .int (max t.1 t.2)])) S = some (Sx.SetI P w S L) := by walk_at "look"
      have lenx : xs.length = ts.length := by rw [hD.length, List.length_map]
      refine ⟨W2, S, tkey t, L, rfl, rfl, SqT.of upd_same, S2, hTu.kp kW2, by omega, fun L' _ hL' => ?_⟩
      have pm := hL' nm
      walk_at "go"
      have SW2 : W2 ≠ S := fun z => by rw [z, upd_ne (ne_of_none hS2 hW)] at hW2; rw [hS2] at hW2; cases hW2
      refine ⟨_, _, L', rfl, (hK.trans kW2).put hS0 (NC.setI (by walk_at "look")), upd_same, fun e he => ?_, by rw [pm.length_eq, List.length_cons]; omega, fun e he => ?_⟩
      · have up1 : ∀ b, b ≠ S → ∀ o, (upd (upd H2 W (.tup [.int (min t.1 t.2), .int (max t.1 t.2)])) W2 (.tup [.int (min t.1 t.2), .int (max t.1 t.2)])) b = some o → (upd (upd (upd H2 W (.tup [.int (min t.1 t.2), .int (max t.1 t.2)])) W2 (.tup [.int (min t.1 t.2), .int (max t.1 t.2)])) S (Sx.SetI P w S L')) b = some o := fun b hb o e => by rw [upd_ne hb]; exact e
        rcases List.mem_cons.mp (pm.mem_iff.mp he) with rfl | he
        · exact SqT.of (up1 W2 SW2 _ upd_same)
        · rcases hTu.kp kW2 e he with (z | ⟨o, z⟩) | z
          · exact .inl (.inl (up1 _ (fun c => by rw [c, S2] at z; cases z) _ z))
          · exact .inl (.inr ⟨o, up1 _ (fun c => by rw [c, S2] at z; cases z) _ z⟩)
          · exact .inr z
      · rw [List.take_add_one, ht]
        rcases List.mem_cons.mp (pm.mem_iff.mp he) with rfl | he
        · exact ⟨t, List.mem_append_right _ (List.mem_singleton.mpr rfl), rfl⟩
        · obtain ⟨t0, h0, e0⟩ := hLm e he
          exact ⟨t0, List.mem_append_left _ h0, e0⟩
    · rintro σ' H' ⟨_, _, _, rfl, hK, _⟩
      walk_at "go"
      exact q _ hK
end
end Ap
namespace Ap
open PySem L2 PySem.Spec PyProof.Rows
theorem nodup_le {α : Type} [DecidableEq α] : ∀ {l D : List α}, l.Nodup → (∀ x ∈ l, x ∈ D) → l.length ≤ D.length
  | [], _, _, _ => Nat.zero_le _
  | x :: l, D, n, h => by
    obtain ⟨n1, n2⟩ := List.nodup_cons.mp n
    have hx := h x List.mem_cons_self
    have := nodup_le (D := D.erase x) n2 fun y hy => (List.mem_erase_of_ne (show y ≠ x from fun z => n1 (z ▸ hy))).mpr (h y (List.mem_cons_of_mem _ hy))
    rw [List.length_erase_of_mem hx] at this
    have := List.length_pos_of_mem hx
    simp only [List.length_cons]
    omega
/-- all pairs x < y of 1 .. 40 -/
def allPairs : List (List Int) := (up 40).flatMap fun x => ((up 40).filter (x < ·)).map fun y => [x, y]
theorem NetS.few {n : Nat} {ts : List Tie} (h : NetS (up n) ts) (hn : n ≤ 40) : ts.length ≤ 900 := by
  have nd : (ts.map tkey).Nodup := List.pairwise_map.mpr (h.ap.imp tkey_apart)
  have sub : ∀ k ∈ ts.map tkey, k ∈ allPairs := fun k hk => by
    obtain ⟨t, ht, rfl⟩ := List.mem_map.mp hk
    obtain ⟨m1, m2, ne⟩ := h.mem t ht
    have b1 := up_mem.mp m1
    have b2 := up_mem.mp m2
    exact List.mem_flatMap.mpr ⟨min t.1 t.2, up_mem.mpr (by omega), List.mem_map.mpr ⟨max t.1 t.2, List.mem_filter.mpr ⟨up_mem.mpr (by omega), decide_eq_true (by omega)⟩, rfl⟩⟩
  have le := nodup_le nd sub
  have c : allPairs.length = 780 := by decide +kernel
  rw [List.length_map, c] at le
  omega
def spNet2 (tb : List Addr) : Sp := fun vs H Q _ => ∃ (n : Nat) (ts : List Tie) (v : V), vs = [.int n, v] ∧ 3 ≤ n ∧ n ≤ 40 ∧ NetS (up n) ts ∧ Nt H v ts ∧ Tabs tb H ∧ ∀ H', Kp [] H H' → Q .non H'
section
variable {P : Program} {w : World} {K : PySem.W.Frag} {mg : Str → Option Value} {base : Heap}
theorem ok_check_net (T : Txt P K mg base) : FnOk P w K mg base CX0 5 T.a_check_net T.fd_check_net ["seats", "ties"] (spNet2 T.tbs) := by
  refine fnK_of0 T.F_check_net sc_check_net (fun vs H Q E h => ?_) (fun cdv A outer s H vs Q E hcd hr h => ?_)
  · obtain ⟨n, ts, v, rfl, _⟩ := h
    rfl
  · obtain ⟨n, ts, v, rfl, n1, n2, hS, hN, hT, q⟩ := h
    refine ⟨_, (pss_cons (ps_expr (pe_call (ok_check_seats T) (hr.mono (by decide)) rfl T.m_check_seats T.F_check_seats.kp T.b_check_seats .nil pass0 (pa_cons (pv 0) pa_nil)))
    (pss_one (ps_expr (pe_call (ok_check_ties T) (hr.mono (by decide)) rfl T.m_check_ties T.F_check_ties.kp T.b_check_ties .nil pass0 (pa_cons (pv 0) (pa_cons (pv 1) pa_nil)))))), ?_⟩
    rw [show start ["seats", "ties"] [.int n, v] = [some (.int n), some (v)] from rfl]
    walk_at "go"
    refine ⟨n, rfl, n1, n2, ?_⟩
    walk_at "go"
    refine ⟨n, ts, v, rfl, hS, hS.few n2, hN, hT, fun H' hK => ?_⟩
    walk_at "go"
    exact q H' hK
end
end Ap


namespace Ap
open PySem L2 PySem.Spec PyProof.Rows
/-- the seats tied to k, in the order of the ties -/
def nearL (ts : List Tie) (k : Int) : List Int := ts.filterMap fun t => if t.1 = k then some t.2 else if t.2 = k then some t.1 else none
theorem nearL_mem {ts : List Tie} {k y : Int} (ne : ∀ t ∈ ts, t.1 ≠ t.2) : y ∈ nearL ts k ↔ (k, y) ∈ ts ∨ (y, k) ∈ ts := by
  unfold nearL
  rw [List.mem_filterMap]
  constructor
  · rintro ⟨⟨a, b⟩, ht, e⟩
    simp only at e
    split at e
    · rename_i h
      cases e
      subst h
      exact .inl ht
    · split at e
      · rename_i h
        cases e
        subst h
        exact .inr ht
      · cases e
  · rintro (h | h)
    · exact ⟨_, h, by simp⟩
    · refine ⟨_, h, ?_⟩
      have := ne _ h
      simp [show ¬ y = k from this]
theorem nearL_snoc {ts : List Tie} {t : Tie} {k : Int} : nearL (ts ++ [t]) k = nearL ts k ++ (if t.1 = k then [t.2] else if t.2 = k then [t.1] else []) := by
  unfold nearL
  rw [List.filterMap_append]
  congr 1
  simp only [List.filterMap_cons, List.filterMap_nil]
  split
  · rename_i h
    split at h
    · cases h
    · rename_i h1
      split at h
      · cases h
      · rename_i h2
        rw [if_neg h1, if_neg h2]
  · rename_i h
    split at h
    · rename_i h1
      cases h
      rw [if_pos h1]
    · rename_i h1
      split at h
      · rename_i h2
        cases h
        rw [if_neg h1, if_pos h2]
      · cases h
/-- a dict of these seats -/
def nkv (ys : List Int) : List (Key × V) := ys.map fun y => (Sum.inl y, V.bl true)
theorem nkv_val {ys : List Int} {y : Int} : (valV (nkv ys) (Sum.inl y)).isSome = decide (y ∈ ys) := by
  rw [← valV_any, Bool.eq_iff_iff, List.any_eq_true, decide_eq_true_eq]
  constructor
  · rintro ⟨⟨k, v⟩, hm, e⟩
    obtain ⟨z, hz, e2⟩ := List.mem_map.mp hm
    cases e2
    simp at e
    exact e ▸ hz
  · intro h
    exact ⟨_, List.mem_map.mpr ⟨y, h, rfl⟩, by simp⟩
theorem nkv_put {ys : List Int} {y : Int} (h : y ∉ ys) : putK (nkv ys) (Sum.inl y) (V.bl true) = nkv (ys ++ [y]) := by
  rw [putK_new]
  · unfold nkv
    rw [List.map_append]; rfl
  · have := nkv_val (ys := ys) (y := y)
    rw [decide_eq_false h] at this
    cases e : valV (nkv ys) (Sum.inl y) with
    | none => rfl
    | some _ => rw [e] at this; cases this
/-- the net's near stands at v: a new list of n + 1 new dicts -/
structure NearAt (H : Hp) (np : Addr) (ds : List Addr) (n : Nat) (ts : List Tie) (H' : Hp) : Prop where
  new : H np = none
  lst : H' np = some (.lst (ds.map V.ref))
  len : ds.length = n + 1
  nd : ds.Nodup
  news : ∀ d ∈ ds, H d = none ∧ d ≠ np
  dct : ∀ (k : Nat) d, ds[k]? = some d → H' d = some (.dK (nkv (nearL ts k)))
def spNear : Sp := fun vs H Q _ => ∃ (n : Nat) (ts : List Tie) (v : V), vs = [.int n, v] ∧ n ≤ 40 ∧ NetS (up n) ts ∧ Nt H v ts ∧ ∀ np ds H', Kp [] H H' → NearAt H np ds n ts H' → Q (.ref np) H'
section
variable {P : Program} {w : World} {K : PySem.W.Frag} {mg : Str → Option Value} {base : Heap}
theorem ok_near_in (T : Txt P K mg base) : FnOk P w K mg base CX0 1 T.a_near_in T.fd_near_in ["seats", "ties"] spNear := by
  refine fnK_of0 T.F_near_in sc_near_in (fun vs H Q E h => ?_) (fun cdv A outer s H vs Q E hcd hr h => ?_)
  · obtain ⟨n, ts, v, rfl, _⟩ := h
    rfl
  · obtain ⟨n, ts, v, rfl, n2, hS, hN, q⟩ := h
    obtain ⟨p, xs, rfl, -, hp, hA⟩ := hN.list_inv
    refine ⟨_, (pss_cons (ps_setLc (i := 2) (own := [("seat", 5)]) (g := gName 5) (tt := tYes) rfl sc_near_in.nd rfl rfl (sw_true rfl rfl rfl (by decide +kernel)) (pi_range1 (by rfl) T.n_range (pa_cons (pe_op op_add (pv 0) pe_int) pa_nil)) (blkOk_by (N := ["seats", "ties", "near", "one", "two", "seat"]) (sc := defScope s_near_in) (by decide +kernel)) (fun _ _ _ _ _ => (pg_name (i := 5) sc_near_in.nd rfl (Or.inl rfl))) (fun _ _ _ _ _ => pts_nil) (fun _ _ _ _ _ => pe_dnewK))
    (pss_cons (ps_for PassesOwn.never rfl (pi_list (pv 1)) (pg_lst rfl (pgs_cons (pg_name (i := 3) sc_near_in.nd rfl (Or.inl rfl)) (pgs_cons (pg_name (i := 4) sc_near_in.nd rfl (Or.inl rfl)) pgs_nil)))
      (pss_cons (ps_dput hr.u1 (pe_ix ix_list (pv 2) (pv 3) (fun _ _ => rfl)) (pv 4) pe_bl rfl)
      (pss_one (ps_dput hr.u1 (pe_ix ix_list (pv 2) (pv 4) (fun _ _ => rfl)) (pv 3) pe_bl rfl))))
    (pss_one (ps_ret (pv 2))))), ?_⟩
    rw [show start ["seats", "ties", "near", "one", "two", "seat"] [.int n, .ref p] = [some (.int n), some (.ref p), none, none, none, none] from rfl]
    walk_at "go"
    rw [show ((n : Int) + 1).toNat = n + 1 by omega]
    refine g_lc walk_range (w0 := [some (.int n), some (.ref p), none, none, none, none]) rfl fun D hD => ⟨fun i H' => ∃ ds : List Addr, H' D = some (.lst (ds.map V.ref)) ∧ ds.length = i ∧ ds.Nodup ∧ (∀ d ∈ ds, H d = none ∧ d ≠ D ∧ H' d = some (.dK [])) ∧ Kp [] H H', ⟨[], upd_same, rfl, List.nodup_nil, fun _ z => (nomatch z), (Kp.refl _ _).put hD⟩, fun _ _ _ _ => trivial, ?_, ?_⟩
    · rintro i x H1 H' hi ⟨ds, hl, hn, nd, hds, hK⟩ ⟨rfl, rfl⟩
      walk_at "go"
      refine g_kLg rfl ?_
      walk_at "go"
      refine g_dnew fun d hd => ?_
      refine g_kLe (acc := ds.map V.ref) (by walk_at "look") (triv_szl (by rw [List.length_map]; omega)) ⟨ds ++ [d], ?_, ?_, ?_, ?_, ?_⟩
      · rw [List.map_append]; exact upd_same
      · rw [List.length_append, hn]; rfl
      · refine List.nodup_append.mpr ⟨nd, List.nodup_cons.mpr ⟨(nomatch ·), List.nodup_nil⟩, fun a ha b hb z => ?_⟩
        obtain rfl := List.mem_singleton.mp hb
        have := (hds a ha).2.2
        rw [z, hd] at this
        cases this
      · have dD : d ≠ D := fun z => by rw [z, hl] at hd; cases hd
        intro e he
        rcases List.mem_append.mp he with he | he
        · obtain ⟨a, b, c⟩ := hds e he
          exact ⟨a, b, by rw [upd_ne b, upd_ne (ne_of_none c hd)]; exact c⟩
        · obtain rfl := List.mem_singleton.mp he
          exact ⟨hK.free hd, dD, by rw [upd_ne dD]; exact upd_same⟩
      · exact (hK.put (hK.free hd)).put hD
    rintro H1 ⟨ds, hl, hn, nd, hds, hK⟩
    walk_at "go"
    have H0' : ∀ k d, ds[k]? = some d → H1 d = some (.dK (nkv (nearL (ts.take 0) (k : Nat)))) := fun k d e => (hds d (List.mem_of_getElem? e)).2.2
    have news : ∀ d ∈ ds, H d = none ∧ d ≠ D := fun d hd => ⟨(hds d hd).1, (hds d hd).2.1⟩
    have lenx : xs.length = ts.length := by rw [hA.length, List.length_map]
    refine g_forL (xs := xs) (fun i σ' H' => ∃ x3 x4, σ' = [some (.int n), some (.ref p), some (.ref D), x3, x4, none] ∧ Kp [] H H' ∧ H' D = some (.lst (ds.map V.ref)) ∧ ∀ k d, ds[k]? = some d → H' d = some (.dK (nkv (nearL (ts.take i) (k : Nat)))))
      ⟨_, _, rfl, hK, hl, H0'⟩ (fun i σ' H' _ h => ?_) ?_ ?_
    · obtain ⟨_, _, _, hK, _⟩ := h
      exact SqL.of (hK.lst nin0 hp)
    · clear hl hds hK H0' H1
      rintro i x σ' H' hi ⟨x3, x4, rfl, hK, hl, hd⟩
      obtain ⟨dd, hdd, hx⟩ := hA.getV hi
      rw [List.getElem?_map] at hdd
      obtain ⟨t, ht, rfl⟩ := Option.map_eq_some_iff.mp hdd
      have hx := hx.keep hK (fun _ _ => nin0) (fun _ h => h)
      obtain ⟨q1, rfl, -, hq⟩ := Da.ints_inv (ns := [t.1, t.2]) hx
      have hq : H' q1 = some (.lst [.int t.1, .int t.2]) := hq
      have tin := List.mem_of_getElem? ht
      obtain ⟨m1, m2, ne⟩ := hS.mem t tin
      have b1 := up_mem.mp m1
      have b2 := up_mem.mp m2
      obtain ⟨a, ea⟩ : ∃ a : Nat, t.1 = a := ⟨t.1.toNat, by omega⟩
      obtain ⟨b, eb⟩ : ∃ b : Nat, t.2 = b := ⟨t.2.toNat, by omega⟩
      have ha : ds[a]? = some ds[a] := List.getElem?_eq_getElem (by omega)
      have hb : ds[b]? = some ds[b] := List.getElem?_eq_getElem (by omega)
      generalize ds[a] = d1 at ha
      generalize ds[b] = d2 at hb
      have at1 : atI (ds.map V.ref) t.1 = some (.ref d1) := atI_of ea (by rw [List.getElem?_map, ha]; rfl)
      have at2 : atI (ds.map V.ref) t.2 = some (.ref d2) := atI_of eb (by rw [List.getElem?_map, hb]; rfl)
      have same : ∀ {k l : Nat} {d : Addr}, ds[k]? = some d → ds[l]? = some d → k = l := fun {k l d} u v => by
        obtain ⟨h0, f0⟩ := List.getElem?_eq_some_iff.mp u
        obtain ⟨h1, f1⟩ := List.getElem?_eq_some_iff.mp v
        exact (List.getElem_inj nd).mp (f0.trans f1.symm)
      have d12 : d1 ≠ d2 := fun z => by
        have := same ha (z ▸ hb)
        omega
      have lenN : ∀ k, (nkv (nearL (ts.take i) k)).length < sizeLine := fun k => triv_szl (by
        have h1 : (nearL (ts.take i) k).length ≤ (ts.take i).length := List.length_filterMap_le _ _
        have h2 : (ts.take i).length ≤ ts.length := by rw [List.length_take]; omega
        have h3 := hS.few n2
        unfold nkv
        rw [List.length_map]
        omega)
      have apt : ∀ s ∈ ts.take i, Apart s t := fun s hs => by
        obtain ⟨j, hj, rfl⟩ := List.getElem_of_mem hs
        rw [List.length_take] at hj
        rw [List.getElem_take]
        obtain ⟨il, et2⟩ := List.getElem?_eq_some_iff.mp ht
        have ap := List.pairwise_iff_getElem.mp hS.ap j i (by omega) il (by omega)
        rwa [et2] at ap
      have nei : ∀ s ∈ ts.take i, s.1 ≠ s.2 := fun s hs => (hS.mem s (List.mem_of_mem_take hs)).2.2
      have n1 : t.2 ∉ nearL (ts.take i) a := fun z => by
        rcases (nearL_mem nei).mp z with z | z
        · exact (apt _ z).1 ⟨ea.symm, rfl⟩
        · exact (apt _ z).2 ⟨rfl, ea.symm⟩
      have n2' : t.1 ∉ nearL (ts.take i) b := fun z => by
        rcases (nearL_mem nei).mp z with z | z
        · exact (apt _ z).2 ⟨eb.symm, rfl⟩
        · exact (apt _ z).1 ⟨rfl, eb.symm⟩
      walk_at "go"
      refine g_put (k := .inl t.2) (hd a d1 ha) rfl (lenN _) ?_
      rw [nkv_put n1]
      have d1D : D ≠ d1 := Ne.symm (news d1 (List.mem_of_getElem? ha)).2
      have d2D : D ≠ d2 := Ne.symm (news d2 (List.mem_of_getElem? hb)).2
      walk_at "go"
      refine g_put (k := .inl t.1) (kvs := nkv (nearL (ts.take i) b)) (by rw [upd_ne (Ne.symm d12)]; exact hd b d2 hb) rfl (lenN _) ?_
      rw [nkv_put n2']
      walk_at "go"
      refine ⟨_, _, rfl, (hK.put (news d1 (List.mem_of_getElem? ha)).1 (NC.some (hd a d1 ha) rfl)).put (news d2 (List.mem_of_getElem? hb)).1 (NC.some (by rw [upd_ne (Ne.symm d12)]; exact hd b d2 hb) rfl), by rw [upd_ne d2D, upd_ne d1D]; exact hl, fun k d e => ?_⟩
      rw [List.take_add_one, ht]
      show _ = some (HO.dK (nkv (nearL (ts.take i ++ [t]) k)))
      rw [nearL_snoc]
      by_cases c2 : d = d2
      · subst c2
        obtain rfl := same e hb
        rw [upd_same, if_neg (by omega), if_pos eb]
      · by_cases c1 : d = d1
        · subst c1
          obtain rfl := same e ha
          rw [upd_ne c2, upd_same, if_pos ea]
        · rw [upd_ne c2, upd_ne c1, hd k d e, if_neg (fun z => c1 ?_), if_neg (fun z => c2 ?_), List.append_nil]
          · have : k = b := by omega
            subst this
            rw [hb] at e; cases e; rfl
          · have : k = a := by omega
            subst this
            rw [ha] at e; cases e; rfl
    · rintro σ' H' ⟨x3, x4, rfl, hK, hl, hd⟩
      walk_at "go"
      rw [lenx, List.take_of_length_le (Nat.le_refl _)] at hd
      exact q D ds H' hK ⟨hD, hl, hn, nd, news, hd⟩
end
end Ap


namespace Ap
open PySem L2 PySem.Spec PyProof.Rows
/-- the net's near stands at np -/
def NearIs (np : Addr) (n : Nat) (ts : List Tie) (H : Hp) : Prop := ∃ ds : List Addr, H np = some (.lst (ds.map V.ref)) ∧ ds.length = n + 1 ∧ ∀ (k : Nat) d, ds[k]? = some d → H d = some (.dK (nkv (nearL ts k)))
theorem NearIs.kp {np : Addr} {n : Nat} {ts : List Tie} {H H' : Hp} (h : NearIs np n ts H) (k : Kp [] H H') : NearIs np n ts H' := by
  obtain ⟨ds, h1, h2, h3⟩ := h
  exact ⟨ds, k.lst nin0 h1, h2, fun i d e => k.look nin0 (h3 i d e) (ntb rfl)⟩
theorem NearAt.is {H H' : Hp} {np : Addr} {ds : List Addr} {n : Nat} {ts : List Tie} (h : NearAt H np ds n ts H') : NearIs np n ts H' := ⟨ds, h.lst, h.len, h.dct⟩
theorem nearL_tied {n : Nat} {ts : List Tie} (hS : NetS (up n) ts) {x y : Int} : y ∈ nearL ts x ↔ Tied ts x y := nearL_mem fun t ht => (hS.mem t ht).2.2
/-- where two different people sit, there is no tie of a seat with itself -/
theorem not_tied_self {n : Nat} {ts : List Tie} (hS : NetS (up n) ts) {x : Int} : ¬ Tied ts x x := fun h => by
  rcases h with h | h
  · exact (hS.mem _ h).2.2 rfl
  · exact (hS.mem _ h).2.2 rfl
def spCalledIn : Sp := fun vs H Q _ => ∃ (np rp cp : Addr) (n : Nat) (ts : List Tie) (row cs : List Int), vs = [.ref np, .ref rp, .ref cp] ∧ NearIs np n ts H ∧ NetS (up n) ts ∧ H rp = some (.lst (row.map V.int)) ∧ H cp = some (.lst (cs.map V.int)) ∧
  2 ≤ n ∧ n ≤ 40 ∧ Stand n row ∧ (∀ c ∈ cs, c ∈ up n) ∧
  ∀ q rq H', H q = none → H rq = none → Kp [] H H' → H' q = some (.tup [.ref rq, .int (chg ts n row cs)]) → H' rq = some (.lst ((moved ts n row cs).map V.int)) → Q (.ref q) H'
section
variable {P : Program} {w : World} {K : PySem.W.Frag} {mg : Str → Option Value} {base : Heap}
theorem ok_called_in (T : Txt P K mg base) : FnOk P w K mg base CX0 2 T.a_called_in T.fd_called_in ["near", "standing", "calls"] spCalledIn := by
  refine fnK_of0 T.F_called_in sc_called_in (fun vs H Q E h => ?_) (fun cdv A outer s H vs Q E hcd hr h => ?_)
  · obtain ⟨np, rp, cp, n, ts, row, cs, rfl, _⟩ := h
    rfl
  · obtain ⟨np, rp, cp, n, ts, row, cs, rfl, hN, hS, hp, hc, n1, n2, hrow, hcs, q⟩ := h
    have ln := hrow.length
    refine ⟨_, (pss_cons (ps_set (i := 3) sc_called_in.nd rfl (Or.inl rfl) (pe_callTy cr_list (by rfl) T.n_list (by decide +kernel) (pa_cons (pv 1) pa_nil)))
    (pss_cons (ps_setDc (i := 4) (own := [("seat", 8), ("person", 9)]) (g := gTup K 2 (gCons (gName 8) (gCons (gName 9) gNil))) (tt := tYes) rfl sc_called_in.nd rfl rfl (sw_trueD rfl rfl rfl (by decide +kernel)) (pi_enumS (by rfl) T.n_enumerate (pa_cons (pv 3) (pa_cons pe_int pa_nil))) (blkOk_by (N := ["near", "standing", "calls", "row", "spot", "changes", "one", "two", "seat", "person"]) (sc := defScope s_called_in) (by decide +kernel)) (fun _ _ _ _ _ => (pg_tup rfl (pgs_cons (pg_name (i := 8) sc_called_in.nd rfl (Or.inl rfl)) (pgs_cons (pg_name (i := 9) sc_called_in.nd rfl (Or.inl rfl)) pgs_nil)))) (fun _ _ _ _ _ => pts_nil) (fun _ _ _ _ _ => (pv 9)) (fun _ _ _ _ _ => (pv 8)))
    (pss_cons (ps_set (i := 5) sc_called_in.nd rfl (Or.inl rfl) pe_int)
    (pss_cons (ps_for PassesOwn.never rfl (pi_list (pv 2)) (pg_name (i := 6) sc_called_in.nd rfl (Or.inl rfl))
      (pss_cons (ps_set (i := 7) sc_called_in.nd rfl (Or.inl rfl) (pe_call (ok_next_round T) (hr.mono (by decide)) rfl T.m_next_round T.F_next_round.kp T.b_next_round .nil pass0 (pa_cons (pv 6) (pa_cons (pe_callB cr_len (by rfl) T.n_len (by decide +kernel) (pa_cons (pv 3) pa_nil)) pa_nil))))
      (pss_one (ps_if (pt_cmp (pc_dnotin hr.u1 (pe_dget hr.u1 (pv 4) (pv 7) (fun _ _ => rfl)) (pe_ix ix_list (pv 0) (pe_dget hr.u1 (pv 4) (pv 6) (fun _ _ => rfl)) (fun _ _ => rfl))) (by rfl))
        (pss_cons (ps_asg (pe_tup (pa_cons (pe_dget hr.u1 (pv 4) (pv 7) (fun _ _ => rfl)) (pa_cons (pe_dget hr.u1 (pv 4) (pv 6) (fun _ _ => rfl)) pa_nil))) (pg_tup rfl (pgs_cons (pg_sub (pv 4) (pv 6) (set_dict hr.u1)) (pgs_cons (pg_sub (pv 4) (pv 7) (set_dict hr.u1)) pgs_nil))))
        (pss_cons (ps_asg (pv 6) (pg_sub (pv 3) (pe_op op_sub (pe_dget hr.u1 (pv 4) (pv 6) (fun _ _ => rfl)) pe_int) set_list))
        (pss_cons (ps_asg (pv 7) (pg_sub (pv 3) (pe_op op_sub (pe_dget hr.u1 (pv 4) (pv 7) (fun _ _ => rfl)) pe_int) set_list))
        (pss_one (ps_aug (i := 5) sc_called_in.nd rfl (Or.inl rfl) pe_int ip_add)))))
        pss_nil))))
    (pss_one (ps_ret (pe_tup (pa_cons (pv 3) (pa_cons (pv 5) pa_nil))))))))), ?_⟩
    rw [show start ["near", "standing", "calls", "row", "spot", "changes", "one", "two", "seat", "person"] [.ref np, .ref rp, .ref cp] = [some (.ref np), some (.ref rp), some (.ref cp), none, none, none, none, none, none, none] from rfl]
    walk_at "go"
    rename_i rw hrw
    refine g_kIEnS (by walk_at "look") (by decide) (by decide) ?_
    have k0 : Kp [] H (upd H rw (.lst (row.map V.int))) := (Kp.refl _ _).put hrw
    refine dc_it (walk_enumS (xs := row.map V.int)) (w0 := [some (.ref np), some (.ref rp), some (.ref cp), some (.ref rw), none, none, none, none, none, none]) rfl fun sp hsp => ⟨fun i H' => H' sp = some (.dK (kvm (row.take i) fun p => .int (seat row p + 0))) ∧ H' rw = some (.lst (row.map V.int)) ∧ Kp [] H H', ⟨upd_same, by walk_at "look", k0.put (k0.free hsp)⟩, fun _ _ _ h => SqL.of h.2.1, ?_, ?_⟩
    · rintro i x H1 H' hi ⟨h1, h2, hK⟩ ⟨Tp, xi, y, rfl, hTp, rfl, hx1, hx2⟩
      cases hx1
      have hx2 : (row.map V.int)[i]? = some y := hx2
      rw [List.getElem?_map] at hx2
      obtain ⟨z, hz, rfl⟩ := Option.map_eq_some_iff.mp hx2
      rw [List.length_map] at hi
      walk_at "go"
      refine g_kDg rfl ?_
      walk_at "go"
      refine g_kDv (k := .inl z) rfl (kvs := kvm (row.take i) fun p => .int (seat row p + 0)) (by walk_at "look") (triv_szl (by rw [kvm_len, List.length_take]; omega)) ⟨?_, ?_, ?_⟩
      · rw [take_succ' hz, ← kvm_new (not_mem_take hrow.nodup hz), seat_at hrow.nodup hz, show (i : Int) + 1 + 0 = 1 + (i : Nat) by omega]
        exact upd_same
      · have : rw ≠ sp := ne_kd h2 h1 (by with_unfolding_all rfl)
        walk_at "look"
      · exact (hK.put (hK.free hTp)).put (k0.free hsp)
    rintro H1 ⟨h1, h2, hK1⟩
    rw [List.length_map, List.take_of_length_le (Nat.le_refl _)] at h1
    walk_at "go"
    have lc : (cs.map V.int).length = cs.length := List.length_map _
    have sp0 : H sp = none := k0.free hsp
    refine g_forL (xs := cs.map V.int) (fun i σ' H' => ∃ x6 x7, σ' = [some (.ref np), some (.ref rp), some (.ref cp), some (.ref rw), some (.ref sp), some (.int (chg ts n row (cs.take i) : Nat)), x6, x7, none, none] ∧
        H' sp = some (.dK (spk 0 row (moved ts n row (cs.take i)))) ∧ H' rw = some (.lst ((moved ts n row (cs.take i)).map V.int)) ∧ Kp [] H H')
      ⟨_, _, rfl, h1, h2, hK1⟩ (fun i σ' H' _ h => ?_) ?_ ?_
    · obtain ⟨_, _, _, _, _, hK⟩ := h
      exact SqL.of (hK.lst nin0 hc)
    · rintro i x σ' H' hx ⟨x6, x7, rfl, hsp', hrw', hK⟩
      rw [List.getElem?_map] at hx
      obtain ⟨c, hcx, rfl⟩ := Option.map_eq_some_iff.mp hx
      have cin := hcs c (List.mem_of_getElem? hcx)
      have n0 : 1 ≤ n := by omega
      have din := nx_mem (n := n) (c := c) n0
      have cd := nx_ne cin n1
      rw [take_succ' hcx, moved_snoc, chg_snoc]
      have hR : Stand n (moved ts n row (cs.take i)) := moved_stand hrow fun d hd => hcs d (List.mem_of_mem_take hd)
      generalize moved ts n row (cs.take i) = R at *
      generalize chg ts n row (cs.take i) = ch at *
      have hlR := hR.length
      have s1 := seat_pos hR cin
      have s2 := seat_pos hR din
      obtain ⟨ds, hN1, hN2, hN3⟩ := hN.kp hK
      obtain ⟨a, ea⟩ : ∃ a : Nat, seat R c = a := ⟨(seat R c).toNat, by omega⟩
      have had : ds[a]? = some ds[a] := List.getElem?_eq_getElem (by omega)
      generalize ds[a] = da at had
      have hda := hN3 a da had
      have at1 : atI (ds.map V.ref) (seat R c + 0) = some (.ref da) := atI_of (n := a) (by omega) (by rw [List.getElem?_map, had]; rfl)
      have v1 : valV (spk 0 row R) (.inl c) = some (.int (seat R c + 0)) := kvm_val (hrow.mem.mpr cin)
      have v2 : valV (spk 0 row R) (.inl (nx n c)) = some (.int (seat R (nx n c) + 0)) := kvm_val (hrow.mem.mpr din)
      walk_at "go"
      rw [List.length_map, hlR]
      refine ⟨n, c, rfl, by omega, ?_⟩
      walk_at "go"
      refine g_get (k := .inl (nx n c)) hsp' rfl v2 ?_
      walk_at "go"
      refine g_get (k := .inl c) hsp' rfl v1 ?_
      walk_at "go"
      refine g_din (k := .inl (seat R (nx n c) + 0)) hda rfl ?_
      have ein : (if false = true then (valV (nkv (nearL ts (a : Int))) (Sum.inl (seat R (nx n c) + 0))).isSome else !(valV (nkv (nearL ts (a : Int))) (Sum.inl (seat R (nx n c) + 0))).isSome) = !decide (Tied ts (seat R c) (seat R (nx n c))) := by
        rw [if_neg (by decide), nkv_val, Int.add_zero, ← ea]
        congr 1
        exact decide_eq_decide.mpr (nearL_tied hS)
      rw [ein]
      walk_at "go"
      refine g_kN (fun e => ?_) (fun e => ?_)
      · have e1 : step ts n R c = R.map (sw c (nx n c)) := by unfold step; rw [if_neg e]
        have s3 : seat (R.map (sw c (nx n c))) c = seat R (nx n c) := by rw [seat_map, sw_l]
        have s4 : seat (R.map (sw c (nx n c))) (nx n c) = seat R c := by rw [seat_map, sw_r]
        have w1 : valV (spk 0 row (R.map (sw c (nx n c)))) (.inl c) = some (.int (seat R (nx n c) + 0)) := by rw [← s3]; exact kvm_val (hrow.mem.mpr cin)
        have w2 : valV (spk 0 row (R.map (sw c (nx n c)))) (.inl (nx n c)) = some (.int (seat R c + 0)) := by rw [← s4]; exact kvm_val (hrow.mem.mpr din)
        rw [e1, if_neg e]
        have spw : sp ≠ rw := ne_kd hsp' hrw' (by with_unfolding_all rfl)
        have lsz : (spk 0 row R).length < sizeLine := triv_szl (by unfold spk; rw [kvm_len]; omega)
        walk_at "go"
        refine g_get (k := .inl (nx n c)) hsp' rfl v2 ?_
        walk_at "go"
        refine g_get (k := .inl c) hsp' rfl v1 ?_
        walk_at "go"
        rename_i Tp hTp
        have spT : sp ≠ Tp := ne_of_none hsp' hTp
        have rwT : rw ≠ Tp := ne_of_none hrw' hTp
        refine g_setD (k := .inl c) (kvs := spk 0 row R) (by walk_at "look") rfl lsz ?_
        walk_at "go"
        refine g_setD (k := .inl (nx n c)) upd_same rfl (triv_szl (by unfold spk; rw [kvm_put (hrow.mem.mpr cin), kvm_len]; omega)) ?_
        rw [spk_swap hrow cin din, upd_upd]
        walk_at "go"
        refine g_get (k := .inl c) upd_same rfl w1 ?_
        walk_at "go"
        have i1 : R[R.idxOf c]? = some c := at_idxOf (hR.mem.mpr cin)
        have i2 : R[R.idxOf (nx n c)]? = some (nx n c) := at_idxOf (hR.mem.mpr din)
        have l1 := (List.getElem?_eq_some_iff.mp i1).1
        have l2 := (List.getElem?_eq_some_iff.mp i2).1
        refine g_setL (xs := R.map V.int) (n := R.idxOf (nx n c)) (by walk_at "look") (ixN_of (by unfold seat; omega) (by rw [List.length_map]; exact l2)) ?_
        walk_at "go"
        refine g_get (k := .inl (nx n c)) (kvs := spk 0 row (R.map (sw c (nx n c)))) (by walk_at "look") rfl w2 ?_
        walk_at "go"
        refine g_setL (xs := (R.map V.int).set (R.idxOf (nx n c)) (.int c)) (n := R.idxOf c) (by walk_at "look") (ixN_of (by unfold seat; omega) (by rw [List.length_set, List.length_map]; exact l1)) ?_
        walk_at "go"
        refine ⟨_, _, rfl, by walk_at "look", ?_, ?_⟩
        · rw [← set_sw hR.nodup i1 i2 (Ne.symm cd), List.map_set, List.map_set]
          exact upd_same
        · exact (((((hK.put (hK.free hTp)).put sp0).put hrw)).put hrw)
      · have e1 : step ts n R c = R := by unfold step; rw [if_pos e]
        rw [e1, if_pos e]
        walk_at "go"
        exact ⟨_, _, rfl, hsp', hrw', hK⟩
    · rintro σ' H' ⟨x6, x7, rfl, hsp', hrw', hK⟩
      rw [lc, List.take_of_length_le (Nat.le_refl _)] at *
      walk_at "go"
      rename_i Tp hTp
      refine q Tp rw _ (hK.free hTp) hrw (hK.put (hK.free hTp)) upd_same ?_
      have rwT : rw ≠ Tp := ne_of_none hrw' hTp
      walk_at "look"
end
end Ap


namespace Ap
open PySem L2 PySem.Spec PyProof.Rows
/-- a standing and how many calls have changed it so far -/
abbrev RS := List Int × Nat
def rsD (s : RS) : PyData := .tuple [intsD s.1, .int s.2]
/-- the attributes of a room -/
def rf (n : Nat) (pp np rp : Addr) (c : Nat) (qp : Addr) : List (Str × V) := [("many", .int n), ("pairs", .ref pp), ("near", .ref np), ("row", .ref rp), ("changed", .int c), ("past", .ref qp)]
section
variable {n : Nat} {pp np rp r' : Addr} {c d : Nat} {qp : Addr}
theorem rf_many : (rf n pp np rp c qp).lookup ("many" : Str) = some (V.int n) := by with_unfolding_all rfl
theorem rf_pairs : (rf n pp np rp c qp).lookup ("pairs" : Str) = some (V.ref pp) := by with_unfolding_all rfl
theorem rf_near : (rf n pp np rp c qp).lookup ("near" : Str) = some (V.ref np) := by with_unfolding_all rfl
theorem rf_row : (rf n pp np rp c qp).lookup ("row" : Str) = some (V.ref rp) := by with_unfolding_all rfl
theorem rf_changed : (rf n pp np rp c qp).lookup ("changed" : Str) = some (V.int c) := by with_unfolding_all rfl
theorem rf_past : (rf n pp np rp c qp).lookup ("past" : Str) = some (V.ref qp) := by with_unfolding_all rfl
theorem rf_put_row : putF ("row" : Str) (.ref r') (rf n pp np rp c qp) = rf n pp np r' c qp := by with_unfolding_all rfl
theorem rf_put_changed : putF ("changed" : Str) (.int d) (rf n pp np rp c qp) = rf n pp np rp d qp := by with_unfolding_all rfl
theorem rf_no {m : Str} (h : (m != "many" && m != "pairs" && m != "near" && m != "row" && m != "changed" && m != "past") = true) : (rf n pp np rp c qp).lookup m = none := by
  simp only [Bool.and_eq_true, bne_iff_ne, ne_eq] at h
  obtain ⟨⟨⟨⟨⟨h1, h2⟩, h3⟩, h4⟩, h5⟩, h6⟩ := h
  unfold rf
  simp only [List.lookup, beq_eq_false_iff_ne.mpr h1, beq_eq_false_iff_ne.mpr h2, beq_eq_false_iff_ne.mpr h3, beq_eq_false_iff_ne.mpr h4, beq_eq_false_iff_ne.mpr h5, beq_eq_false_iff_ne.mpr h6]
theorem rf_len : (rf n pp np rp c qp).length < 1000 := by show 6 < 1000; decide
end
/-- a net's near, at places of which P is true -/
def NearP (P : Addr → Prop) (np : Addr) (n : Nat) (ts : List Tie) (H : Hp) : Prop := P np ∧ ∃ ds : List Addr, H np = some (.lst (ds.map V.ref)) ∧ ds.length = n + 1 ∧ ∀ (k : Nat) d, ds[k]? = some d → P d ∧ H d = some (.dK (nkv (nearL ts k)))
theorem NearP.is {P : Addr → Prop} {np : Addr} {n : Nat} {ts : List Tie} {H : Hp} (h : NearP P np n ts H) : NearIs np n ts H := by
  obtain ⟨_, ds, h1, h2, h3⟩ := h
  exact ⟨ds, h1, h2, fun k d e => (h3 k d e).2⟩
theorem NearP.keep {P : Addr → Prop} {S : List Addr} {np : Addr} {n : Nat} {ts : List Tie} {H H' : Hp} (h : NearP P np n ts H) (k : Kp S H H') (hn : ∀ b, P b → b ∉ S) : NearP P np n ts H' := by
  obtain ⟨h0, ds, h1, h2, h3⟩ := h
  exact ⟨h0, ds, k.lst (hn _ h0) h1, h2, fun i d e => ⟨(h3 i d e).1, k.keep d _ (hn _ (h3 i d e).1) (h3 i d e).2 (fun _ z => nomatch z)⟩⟩
/-- what holds of a room's numbers -/
structure ROk (n : Nat) (ts : List Tie) (hs : List RS) (cur : RS) : Prop where
  net : NetS (up n) ts
  lo : 3 ≤ n
  hi : n ≤ 40
  row : Stand n cur.1
  few : hs.length ≤ 2000
/-- the room at x, its past at qp: the ties, the states before this one (the oldest first), the state now; G: what else is true of its places -/
structure Rm (C x qp : Addr) (G : Addr → Prop) (n : Nat) (ts : List Tie) (hs : List RS) (cur : RS) (H : Hp) : Prop where
  ne : x ≠ qp
  obj : ∃ dx pp np rp, H x = some (.ins C dx (rf n pp np rp cur.2 qp)) ∧ Da (fun b => b ≠ x ∧ b ≠ qp ∧ G b) H (.ref pp) (netD ts) ∧ NearP (fun b => b ≠ x ∧ b ≠ qp ∧ G b) np n ts H ∧ (rp ≠ x ∧ rp ≠ qp ∧ G rp) ∧ H rp = some (.lst (cur.1.map V.int))
  past : ∃ ps, H qp = some (.lst ps) ∧ DaAll (fun b => b ≠ x ∧ b ≠ qp ∧ G b) H ps (hs.map rsD)
theorem Rm.keep {C x qp : Addr} {G : Addr → Prop} {n : Nat} {ts : List Tie} {hs : List RS} {cur : RS} {S : List Addr} {H H' : Hp} (h : Rm C x qp G n ts hs cur H) (k : Kp S H H') (hx : x ∉ S) (hq : qp ∉ S) (hG : ∀ b, G b → b ∉ S) : Rm C x qp G n ts hs cur H' := by
  obtain ⟨dx, pp, np, rp, h1, h2, h3, h4, h5⟩ := h.obj
  obtain ⟨ps, h6, h7⟩ := h.past
  exact ⟨h.ne, ⟨dx, pp, np, rp, k.keep x _ hx h1 (fun _ z => nomatch z), h2.keep k (fun b hb => hG b hb.2.2) fun _ hb => hb, h3.keep k (fun b hb => hG b hb.2.2), h4, k.lst (hG _ h4.2.2) h5⟩,
    ⟨ps, k.lst hq h6, h7.keep k (fun b hb => hG b hb.2.2) fun _ hb => hb⟩⟩
theorem Rm.kp {C x qp : Addr} {G : Addr → Prop} {n : Nat} {ts : List Tie} {hs : List RS} {cur : RS} {H H' : Hp} (h : Rm C x qp G n ts hs cur H) (k : Kp [] H H') : Rm C x qp G n ts hs cur H' := h.keep k nin0 nin0 fun _ _ => nin0
/-! the promises -/
def spRmSeats (C : Addr) : Sp := fun vs H Q _ => ∃ (x qp : Addr) (G : Addr → Prop) (n : Nat) (ts : List Tie) (hs : List RS) (cur : RS), vs = [.ref x] ∧ Rm C x qp G n ts hs cur H ∧ Q (.int n) H
def spRmChanges (C : Addr) : Sp := fun vs H Q _ => ∃ (x qp : Addr) (G : Addr → Prop) (n : Nat) (ts : List Tie) (hs : List RS) (cur : RS), vs = [.ref x] ∧ Rm C x qp G n ts hs cur H ∧ Q (.int cur.2) H
def spRmLen (C : Addr) : Sp := fun vs H Q _ => ∃ (x qp : Addr) (G : Addr → Prop) (n : Nat) (ts : List Tie) (hs : List RS) (cur : RS), vs = [.ref x] ∧ Rm C x qp G n ts hs cur H ∧ Q (.int hs.length) H
def spRmStanding (C : Addr) : Sp := fun vs H Q _ => ∃ (x qp : Addr) (G : Addr → Prop) (n : Nat) (ts : List Tie) (hs : List RS) (cur : RS), vs = [.ref x] ∧ Rm C x qp G n ts hs cur H ∧ ROk n ts hs cur ∧
  ∀ p, H p = none → Q (.ref p) (upd H p (.lst (cur.1.map V.int)))
def spRmTies (C : Addr) : Sp := fun vs H Q _ => ∃ (x qp : Addr) (G : Addr → Prop) (n : Nat) (ts : List Tie) (hs : List RS) (cur : RS), vs = [.ref x] ∧ Rm C x qp G n ts hs cur H ∧ ROk n ts hs cur ∧
  ∀ p H', Kp [] H H' → Da (fun b => H b = none) H' (.ref p) (netD ts) → Q (.ref p) H'
def spRmMake (C : Addr) : Sp := fun vs H Q _ => ∃ (x qp cp : Addr) (G : Addr → Prop) (n : Nat) (ts : List Tie) (hs : List RS) (cur : RS) (cs : List Int), vs = [.ref x, .ref cp] ∧ Rm C x qp G n ts hs cur H ∧ ROk n ts hs cur ∧ (∀ b, H b = none → G b) ∧
  H cp = some (.lst (cs.map V.int)) ∧ cp ≠ qp ∧ (∀ c ∈ cs, c ∈ up n) ∧
  ∀ H', Kp [x, qp] H H' → Rm C x qp G n ts (hs ++ [cur]) (moved ts n cur.1 cs, cur.2 + chg ts n cur.1 cs) H' → Q (.int (chg ts n cur.1 cs)) H'
section
variable {P : Program} {w : World} {K : PySem.W.Frag} {mg : Str → Option Value} {base : Heap}
theorem ok_Room_seats (T : Txt P K mg base) : FnOk P w K mg base CX0 1 T.a_Room_seats T.fd_Room_seats ["self"] (spRmSeats T.C_Room) := by
  refine fnK_of0 T.F_Room_seats sc_Room_seats (fun vs H Q E h => ?_) (fun cdv A outer s H vs Q E hcd hr h => ?_)
  · obtain ⟨x, qp, G, n, ts, hs, cur, rfl, _⟩ := h
    rfl
  · obtain ⟨x, qp, G, n, ts, hs, cur, rfl, R, q⟩ := h
    obtain ⟨dx, pp, np, rp, h1, h2, h3, h4, h5⟩ := R.obj
    refine ⟨_, (pss_one (ps_ret (pe_fld (pv 0) rfl))), ?_⟩
    rw [show start ["self"] [.ref x] = [some (.ref x)] from rfl]
    walk_at "go"
    refine g_kFld h1 T.cl_Room T.nA_Room_many rf_many ?_
    exact q
theorem ok_Room_changes (T : Txt P K mg base) : FnOk P w K mg base CX0 1 T.a_Room_changes T.fd_Room_changes ["self"] (spRmChanges T.C_Room) := by
  refine fnK_of0 T.F_Room_changes sc_Room_changes (fun vs H Q E h => ?_) (fun cdv A outer s H vs Q E hcd hr h => ?_)
  · obtain ⟨x, qp, G, n, ts, hs, cur, rfl, _⟩ := h
    rfl
  · obtain ⟨x, qp, G, n, ts, hs, cur, rfl, R, q⟩ := h
    obtain ⟨dx, pp, np, rp, h1, h2, h3, h4, h5⟩ := R.obj
    refine ⟨_, (pss_one (ps_ret (pe_fld (pv 0) rfl))), ?_⟩
    rw [show start ["self"] [.ref x] = [some (.ref x)] from rfl]
    walk_at "go"
    refine g_kFld h1 T.cl_Room T.nA_Room_changed rf_changed ?_
    exact q
theorem ok_Room___len__ (T : Txt P K mg base) : FnOk P w K mg base CX0 1 T.a_Room___len__ T.fd_Room___len__ ["self"] (spRmLen T.C_Room) := by
  refine fnK_of0 T.F_Room___len__ sc_Room___len__ (fun vs H Q E h => ?_) (fun cdv A outer s H vs Q E hcd hr h => ?_)
  · obtain ⟨x, qp, G, n, ts, hs, cur, rfl, _⟩ := h
    rfl
  · obtain ⟨x, qp, G, n, ts, hs, cur, rfl, R, q⟩ := h
    obtain ⟨dx, pp, np, rp, h1, h2, h3, h4, h5⟩ := R.obj
    obtain ⟨ps, h6, h7⟩ := R.past
    refine ⟨_, (pss_one (ps_ret (pe_callB cr_len (by rfl) T.n_len (by decide +kernel) (pa_cons (pe_fld (pv 0) rfl) pa_nil)))), ?_⟩
    rw [show start ["self"] [.ref x] = [some (.ref x)] from rfl]
    walk_at "go"
    refine g_kFld h1 T.cl_Room T.nA_Room_past rf_past ?_
    walk_at "go"
    rw [h7.length, List.length_map]
    exact q
theorem ok_Room_standing (T : Txt P K mg base) : FnOk P w K mg base CX0 1 T.a_Room_standing T.fd_Room_standing ["self"] (spRmStanding T.C_Room) := by
  refine fnK_of0 T.F_Room_standing sc_Room_standing (fun vs H Q E h => ?_) (fun cdv A outer s H vs Q E hcd hr h => ?_)
  · obtain ⟨x, qp, G, n, ts, hs, cur, rfl, _⟩ := h
    rfl
  · obtain ⟨x, qp, G, n, ts, hs, cur, rfl, R, ok, q⟩ := h
    obtain ⟨dx, pp, np, rp, h1, h2, h3, h4, h5⟩ := R.obj
    refine ⟨_, (pss_one (ps_ret (pe_callTy cr_list (by rfl) T.n_list (by decide +kernel) (pa_cons (pe_fld (pv 0) rfl) pa_nil)))), ?_⟩
    rw [show start ["self"] [.ref x] = [some (.ref x)] from rfl]
    walk_at "go"
    refine g_kFld h1 T.cl_Room T.nA_Room_row rf_row ?_
    walk_at "go"
    exact q _ (by assumption)
theorem ok_Room_make (T : Txt P K mg base) : FnOk P w K mg base CX0 3 T.a_Room_make T.fd_Room_make ["self", "calls"] (spRmMake T.C_Room) := by
  refine fnK_of0 T.F_Room_make sc_Room_make (fun vs H Q E h => ?_) (fun cdv A outer s H vs Q E hcd hr h => ?_)
  · obtain ⟨x, qp, cp, G, n, ts, hs, cur, cs, rfl, _⟩ := h
    rfl
  · obtain ⟨x, qp, cp, G, n, ts, hs, cur, cs, rfl, R, ok, hG, hc, cq, hcs, q⟩ := h
    obtain ⟨dx, pp, np, rp, h1, h2, h3, h4, h5⟩ := R.obj
    obtain ⟨ps, h6, h7⟩ := R.past
    have lps : ps.length = hs.length := by rw [h7.length, List.length_map]
    have few := ok.few
    refine ⟨_, (pss_cons (ps_expr (pe_bm PySem.F.plainAttrs_list PySem.F.slot_list_append PySem.F.type_list_append mt_append (pe_fld (pv 0) rfl) (pa_cons (pe_tup (pa_cons (pe_fld (pv 0) rfl) (pa_cons (pe_fld (pv 0) rfl) pa_nil))) pa_nil)))
    (pss_cons (ps_asg (pe_call (ok_called_in T) (hr.mono (by decide)) rfl T.m_called_in T.F_called_in.kp T.b_called_in .nil pass0 (pa_cons (pe_fld (pv 0) rfl) (pa_cons (pe_fld (pv 0) rfl) (pa_cons (pv 1) pa_nil)))) (pg_tup rfl (pgs_cons (pg_fld (pv 0)) (pgs_cons (pg_name (i := 2) sc_Room_make.nd rfl (Or.inl rfl)) pgs_nil))))
    (pss_cons (ps_fldaug (pv 0) (pv 2) in_add)
    (pss_one (ps_ret (pv 2)))))), ?_⟩
    rw [show start ["self", "calls", "changes"] [.ref x, .ref cp] = [some (.ref x), some (.ref cp), none] from rfl]
    walk_at "go"
    refine g_kFld h1 T.cl_Room T.nA_Room_past rf_past ?_
    walk_at "go"
    refine g_kFld h1 T.cl_Room T.nA_Room_row rf_row ?_
    walk_at "go"
    refine g_kFld h1 T.cl_Room T.nA_Room_changed rf_changed ?_
    walk_at "go"
    rename_i tp ht
    have qt : qp ≠ tp := ne_of_none h6 ht
    have xt : x ≠ tp := ne_of_none h1 ht
    refine g_append (by walk_at "look") (triv_szl (by omega)) ?_
    generalize eH1 : upd (upd H tp (HO.tup [V.ref rp, V.int (cur.2 : Int)])) qp (HO.lst (ps ++ [V.ref tp])) = H1
    have k1 : Kp [x, qp] H H1 := by rw [← eH1]; exact ((Kp.refl _ _).put ht).mut (by simp) h6 (ntb rfl)
    have e1 : H1 x = some (.ins T.C_Room dx (rf n pp np rp cur.2 qp)) := by rw [← eH1, upd_ne R.ne, upd_ne xt]; exact h1
    have e2 : H1 qp = some (.lst (ps ++ [.ref tp])) := by rw [← eH1, upd_same]
    have e3 : H1 tp = some (.tup [.ref rp, .int (cur.2 : Int)]) := by rw [← eH1, upd_ne qt.symm, upd_same]
    have cx : cp ≠ x := fun z => by rw [z, h1] at hc; cases hc
    have nin : ∀ b, b ≠ x ∧ b ≠ qp ∧ G b → b ∉ [x, qp] := fun b hb => by simp [hb.1, hb.2.1]
    have hc1 : H1 cp = some (.lst (cs.map V.int)) := k1.lst (by simp [cx, cq]) hc
    have hr1 : H1 rp = some (.lst (cur.1.map V.int)) := k1.lst (nin _ h4) h5
    have hn1 := h3.keep k1 nin
    walk_at "go"
    refine g_kFld e1 T.cl_Room T.nA_Room_near rf_near ?_
    walk_at "go"
    refine g_kFld e1 T.cl_Room T.nA_Room_row rf_row ?_
    walk_at "go"
    refine ⟨np, rp, cp, n, ts, cur.1, cs, rfl, hn1.is, ok.net, hr1, hc1, by have := ok.lo; omega, ok.hi, ok.row, hcs, fun q1 r2 H2 hq1 hr2 k2 e4 e5 => ?_⟩
    have e6 : H2 x = some (.ins T.C_Room dx (rf n pp np rp cur.2 qp)) := k2.keep x _ nin0 e1 (fun _ z => nomatch z)
    walk_at "go"
    refine g_kSf2 e6 T.cl_Room T.nA_Room_row rf_len rf_put_row ?_
    walk_at "go"
    refine g_kSa1 upd_same T.cl_Room T.nA_Room_changed rf_changed ?_
    walk_at "go"
    refine ⟨_, _, rfl, rfl, dx, _, upd_same, rf_len, ?_⟩
    rw [show (cur.2 : Int) + (chg ts n cur.1 cs : Int) = ((cur.2 + chg ts n cur.1 cs : Nat) : Int) from by omega, rf_put_changed, upd_upd]
    walk_at "go"
    have k3 : Kp [x, qp] H (upd H2 x (.ins T.C_Room dx (rf n pp np r2 (cur.2 + chg ts n cur.1 cs) qp))) := (k1.trans k2.any).mut (by simp) h1 (ntb rfl)
    have f1 : H1 r2 = none := hr2
    have r2x : r2 ≠ x := fun z => by rw [z, e1] at f1; cases f1
    have r2q : r2 ≠ qp := fun z => by rw [z, e2] at f1; cases f1
    have qx : qp ≠ x := Ne.symm R.ne
    have tpx : tp ≠ x := Ne.symm xt
    refine q _ k3 ⟨R.ne, ⟨dx, pp, np, r2, upd_same, h2.keep k3 nin fun _ hb => hb, h3.keep k3 nin, ⟨r2x, r2q, hG _ (k1.free f1)⟩, by rw [upd_ne r2x]; exact e5⟩, ⟨ps ++ [.ref tp], by rw [upd_ne qx]; exact k2.lst nin0 e2, ?_⟩⟩
    rw [List.map_append]
    refine (h7.keep k3 nin fun _ hb => hb).append (.cons (.tup ⟨tpx, Ne.symm qt, hG _ ht⟩ (by rw [upd_ne tpx]; exact k2.tup nin0 e3) (.cons (.ints ⟨h4.1, h4.2.1, h4.2.2⟩ (k3.lst (nin _ h4) h5)) (.cons (.int _) .nil))) .nil)
end
end Ap


namespace Ap
open PySem L2 PySem.Spec PyProof.Rows
def spRmCall (C : Addr) : Sp := fun vs H Q _ => ∃ (x qp : Addr) (G : Addr → Prop) (n : Nat) (ts : List Tie) (hs : List RS) (cur : RS) (c : Int), vs = [.ref x, .int c] ∧ Rm C x qp G n ts hs cur H ∧ ROk n ts hs cur ∧ (∀ b, H b = none → G b) ∧ c ∈ up n ∧
  ∀ H', Kp [x, qp] H H' → Rm C x qp G n ts (hs ++ [cur]) (moved ts n cur.1 [c], cur.2 + chg ts n cur.1 [c]) H' → Q (.bl (decide (chg ts n cur.1 [c] = 1))) H'
def spRmRound (C : Addr) (f : List Int → List Int) : Sp := fun vs H Q _ => ∃ (x qp cp : Addr) (G : Addr → Prop) (n : Nat) (ts : List Tie) (hs : List RS) (cur : RS) (cs : List Int), vs = [.ref x, .ref cp] ∧ Rm C x qp G n ts hs cur H ∧ ROk n ts hs cur ∧ (∀ b, H b = none → G b) ∧
  H cp = some (.lst (cs.map V.int)) ∧ cp ≠ qp ∧ Stand n cs ∧
  ∀ H', Kp [x, qp] H H' → Rm C x qp G n ts (hs ++ [cur]) (moved ts n cur.1 (f cs), cur.2 + chg ts n cur.1 (f cs)) H' → Q (.int (chg ts n cur.1 (f cs))) H'
def spRmUndo (C : Addr) : Sp := fun vs H Q _ => ∃ (x qp : Addr) (G : Addr → Prop) (n : Nat) (ts : List Tie) (hs : List RS) (last cur : RS), vs = [.ref x] ∧ Rm C x qp G n ts (hs ++ [last]) cur H ∧ ROk n ts (hs ++ [last]) cur ∧ (∀ b, H b = none → G b) ∧
  ∀ H', Kp [x, qp] H H' → Rm C x qp G n ts hs last H' → Q .non H'
def spRmUndoX (C N : Addr) : Sp := fun vs H _ E => ∃ (x qp : Addr) (G : Addr → Prop) (n : Nat) (ts : List Tie) (cur : RS), vs = [.ref x] ∧ Rm C x qp G n ts [] cur H ∧ ∀ H', Kp [] H H' → E (.ref N) none H'
theorem rs_inv {P : Addr → Prop} {H : Hp} {v : V} {s : RS} (h : Da P H v (rsD s)) : ∃ t r, v = .ref t ∧ P t ∧ H t = some (.tup [.ref r, .int s.2]) ∧ P r ∧ H r = some (.lst (s.1.map V.int)) := by
  cases h with
  | tup a b c =>
    cases c with
    | cons c1 c2 =>
      cases c2 with
      | cons c3 c4 =>
        cases c4
        cases c3
        obtain ⟨r, rfl, r1, r2⟩ := c1.ints_inv
        exact ⟨_, r, rfl, a, b, r1, r2⟩
section
variable {P : Program} {w : World} {K : PySem.W.Frag} {mg : Str → Option Value} {base : Heap}
theorem ok_Room_call (T : Txt P K mg base) : FnOk P w K mg base CX0 4 T.a_Room_call T.fd_Room_call ["self", "number"] (spRmCall T.C_Room) := by
  refine fnK_of0 T.F_Room_call sc_Room_call (fun vs H Q E h => ?_) (fun cdv A outer s H vs Q E hcd hr h => ?_)
  · obtain ⟨x, qp, G, n, ts, hs, cur, c, rfl, _⟩ := h
    rfl
  · obtain ⟨x, qp, G, n, ts, hs, cur, c, rfl, R, ok, hG, hc, q⟩ := h
    obtain ⟨dx, pp, np, rp, h1, h2, h3, h4, h5⟩ := R.obj
    obtain ⟨ps, h6, h7⟩ := R.past
    have cu := up_mem.mp hc
    refine ⟨_, (pss_cons (ps_if (pt_not (pt_val (pe_call (ok_is_within T) (hr.mono (by decide)) rfl T.m_is_within T.F_is_within.kp T.b_is_within .nil pass0 (pa_cons (pv 1) (pa_cons (pe_fld (pv 0) rfl) pa_nil)))))
      (pss_one ps_never)
      pss_nil)
    (pss_one (ps_ret (pe_cmpR op_eq (pe_meth (pv 0) T.cl_Room T.mt_Room_make (ok_Room_make T) (hr.mono (by decide)) T.b_Room_make .nil pass0 (pa_cons (pe_lst (pa_cons (pv 1) pa_nil)) pa_nil)) pe_int (nomark _))))), ?_⟩
    rw [show start ["self", "number"] [.ref x, .int c] = [some (.ref x), some (.int c)] from rfl]
    walk_at "go"
    refine g_kFld h1 T.cl_Room T.nA_Room_many rf_many ?_
    walk_at "go"
    refine ⟨.int c, some c, n, rfl, .int c, ?_⟩
    rw [show inI (some c) n = true by simp [inI, cu.1, cu.2]]
    walk_at "go"
    refine g_kMeth h1 (rf_no (by decide +kernel)) ?_
    walk_at "go"
    rename_i lp hl
    have qn : lp ≠ qp := fun z => by rw [z, h6] at hl; cases hl
    refine ⟨x, qp, lp, G, n, ts, hs, cur, [c], rfl, R.kp ((Kp.refl _ _).put hl), ok, fun b hb => hG b (((Kp.refl [] H).put hl).free hb), upd_same, qn, fun d hd => by rw [List.mem_singleton.mp hd]; exact hc, fun H2 k2 R2 => ?_⟩
    walk_at "go"
    have := q H2 (((Kp.refl [x, qp] H).put hl).trans k2) R2
    rw [show decide ((chg ts n cur.1 [c] : Int) = 1) = decide (chg ts n cur.1 [c] = 1) from decide_eq_decide.mpr (by omega)]
    exact this
theorem ok_Room_round (T : Txt P K mg base) : FnOk P w K mg base CX0 5 T.a_Room_round T.fd_Room_round ["self", "order"] (spRmRound T.C_Room id) := by
  refine fnK_of0 T.F_Room_round sc_Room_round (fun vs H Q E h => ?_) (fun cdv A outer s H vs Q E hcd hr h => ?_)
  · obtain ⟨x, qp, cp, G, n, ts, hs, cur, cs, rfl, _⟩ := h
    rfl
  · obtain ⟨x, qp, cp, G, n, ts, hs, cur, cs, rfl, R, ok, hG, hc, cq, hcs, q⟩ := h
    obtain ⟨dx, pp, np, rp, h1, h2, h3, h4, h5⟩ := R.obj
    refine ⟨_, (pss_cons (ps_expr (pe_call (ok_check_order_of T) (hr.mono (by decide)) rfl T.m_check_order_of T.F_check_order_of.kp T.b_check_order_of .nil pass0 (pa_cons (pv 1) (pa_cons (pe_fld (pv 0) rfl) pa_nil))))
    (pss_one (ps_ret (pe_meth (pv 0) T.cl_Room T.mt_Room_make (ok_Room_make T) (hr.mono (by decide)) T.b_Room_make .nil pass0 (pa_cons (pv 1) pa_nil))))), ?_⟩
    rw [show start ["self", "order"] [.ref x, .ref cp] = [some (.ref x), some (.ref cp)] from rfl]
    walk_at "go"
    refine g_kFld h1 T.cl_Room T.nA_Room_many rf_many ?_
    walk_at "go"
    refine ⟨cp, cs, n, rfl, hc, ok.hi, hcs, fun H1 k1 => ?_⟩
    walk_at "go"
    refine g_kMeth (k1.keep x _ nin0 h1 (fun _ z => nomatch z)) (rf_no (by decide +kernel)) ?_
    walk_at "go"
    refine ⟨x, qp, cp, G, n, ts, hs, cur, cs, rfl, R.kp k1, ok, fun b hb => hG b (k1.free hb), k1.lst nin0 hc, cq, fun c hc => hcs.mem.mp hc, fun H2 k2 R2 => ?_⟩
    exact q H2 (k1.any.trans k2) R2
theorem ok_Room_round_back (T : Txt P K mg base) : FnOk P w K mg base CX0 5 T.a_Room_round_back T.fd_Room_round_back ["self", "order"] (spRmRound T.C_Room List.reverse) := by
  refine fnK_of0 T.F_Room_round_back sc_Room_round_back (fun vs H Q E h => ?_) (fun cdv A outer s H vs Q E hcd hr h => ?_)
  · obtain ⟨x, qp, cp, G, n, ts, hs, cur, cs, rfl, _⟩ := h
    rfl
  · obtain ⟨x, qp, cp, G, n, ts, hs, cur, cs, rfl, R, ok, hG, hc, cq, hcs, q⟩ := h
    obtain ⟨dx, pp, np, rp, h1, h2, h3, h4, h5⟩ := R.obj
    obtain ⟨ps, h6, h7⟩ := R.past
    refine ⟨_, (pss_cons (ps_expr (pe_call (ok_check_order_of T) (hr.mono (by decide)) rfl T.m_check_order_of T.F_check_order_of.kp T.b_check_order_of .nil pass0 (pa_cons (pv 1) (pa_cons (pe_fld (pv 0) rfl) pa_nil))))
    (pss_one (ps_ret (pe_meth (pv 0) T.cl_Room T.mt_Room_make (ok_Room_make T) (hr.mono (by decide)) T.b_Room_make .nil pass0 (pa_cons (pe_revL (pv 1)) pa_nil))))), ?_⟩
    rw [show start ["self", "order"] [.ref x, .ref cp] = [some (.ref x), some (.ref cp)] from rfl]
    walk_at "go"
    refine g_kFld h1 T.cl_Room T.nA_Room_many rf_many ?_
    walk_at "go"
    refine ⟨cp, cs, n, rfl, hc, ok.hi, hcs, fun H1 k1 => ?_⟩
    walk_at "go"
    refine g_kMeth (k1.keep x _ nin0 h1 (fun _ z => nomatch z)) (rf_no (by decide +kernel)) ?_
    walk_at "go"
    rename_i lp hl
    have qn : lp ≠ qp := fun z => by rw [z, k1.lst nin0 h6] at hl; cases hl
    have k2 : Kp [] H (upd H1 lp (.lst (cs.reverse.map V.int))) := k1.put (k1.free hl)
    rw [← List.map_reverse]
    refine ⟨x, qp, lp, G, n, ts, hs, cur, cs.reverse, rfl, R.kp k2, ok, fun b hb => hG b (k2.free hb), upd_same, qn, fun c hc => hcs.mem.mp (List.mem_reverse.mp hc), fun H2 k3 R2 => ?_⟩
    exact q H2 (k2.any.trans k3) R2
theorem ok_Room_undo (T : Txt P K mg base) : FnOk P w K mg base CX0 1 T.a_Room_undo T.fd_Room_undo ["self"] (spRmUndo T.C_Room) := by
  refine fnK_of0 T.F_Room_undo sc_Room_undo (fun vs H Q E h => ?_) (fun cdv A outer s H vs Q E hcd hr h => ?_)
  · obtain ⟨x, qp, G, n, ts, hs, last, cur, rfl, _⟩ := h
    rfl
  · obtain ⟨x, qp, G, n, ts, hs, last, cur, rfl, R, ok, hG, q⟩ := h
    obtain ⟨dx, pp, np, rp, h1, h2, h3, h4, h5⟩ := R.obj
    obtain ⟨ps, h6, h7⟩ := R.past
    refine ⟨_, (pss_cons (ps_if (pt_cmpR (op_eqE hr.units0) (pe_fld (pv 0) rfl) (pe_lst pa_nil) (nomark _))
      (pss_one ps_never)
      pss_nil)
    (pss_one (ps_asg (pe_bm0 PySem.F.plainAttrs_list PySem.F.slot_list_pop PySem.F.type_list_pop mt_pop (pe_fld (pv 0) rfl)) (pg_tup rfl (pgs_cons (pg_fld (pv 0)) (pgs_cons (pg_fld (pv 0)) pgs_nil)))))), ?_⟩
    rw [show start ["self"] [.ref x] = [some (.ref x)] from rfl]
    walk_at "go"
    refine g_kFld h1 T.cl_Room T.nA_Room_past rf_past ?_
    walk_at "go"
    rw [List.map_append] at h7
    obtain ⟨qs, v, rfl, a1, a2⟩ := h7.snoc
    rw [show (qs ++ [v]).isEmpty = false by cases qs <;> rfl]
    refine g_kF ?_
    walk_at "go"
    rename_i lp hl
    have k1 : Kp [] H (upd H lp (.lst [])) := (Kp.refl _ _).put hl
    have e1 : upd H lp (.lst []) x = some (.ins T.C_Room dx (rf n pp np rp cur.2 qp)) := k1.keep x _ nin0 h1 (fun _ z => nomatch z)
    have e2 := k1.lst nin0 h6
    obtain ⟨t, r, rfl, ⟨t1, t2, t3⟩, e3, ⟨r1, r2, r3⟩, e4⟩ := rs_inv a2
    have e3 := k1.tup nin0 e3
    have e4 := k1.lst nin0 e4
    refine g_kFld e1 T.cl_Room T.nA_Room_past rf_past ?_
    walk_at "go"
    refine ⟨qp, qs ++ [.ref t], .ref t, rfl, rfl, e2, by simp, ?_⟩
    rw [List.dropLast_concat]
    have xq := R.ne
    have tq : t ≠ qp := t2
    have e5 : upd (upd H lp (.lst [])) qp (.lst qs) t = some (.tup [.ref r, .int last.2]) := by rw [upd_ne tq]; exact e3
    have e6 : upd (upd H lp (.lst [])) qp (.lst qs) x = some (.ins T.C_Room dx (rf n pp np rp cur.2 qp)) := by rw [upd_ne xq]; exact e1
    walk_at "go"
    refine g_kSf2 e6 T.cl_Room T.nA_Room_row rf_len rf_put_row ?_
    walk_at "go"
    refine g_kSf2 upd_same T.cl_Room T.nA_Room_changed rf_len rf_put_changed ?_
    rw [upd_upd]
    have k3 : Kp [x, qp] H (upd (upd (upd H lp (.lst [])) qp (.lst qs)) x (.ins T.C_Room dx (rf n pp np r last.2 qp))) := (k1.any.mut (by simp) h6 (ntb rfl)).mut (by simp) h1 (ntb rfl)
    have nin : ∀ b, b ≠ x ∧ b ≠ qp ∧ G b → b ∉ [x, qp] := fun b hb => by simp [hb.1, hb.2.1]
    have qx : qp ≠ x := Ne.symm xq
    walk_at "go"
    exact q _ k3 ⟨xq, ⟨dx, pp, np, r, upd_same, h2.keep k3 nin fun _ hb => hb, h3.keep k3 nin, ⟨r1, r2, r3⟩, by rw [upd_ne r1, upd_ne r2]; exact e4⟩, ⟨qs, by rw [upd_ne qx, upd_same], a1.keep k3 nin fun _ hb => hb⟩⟩
theorem ok_undoX (T : Txt P K mg base) : FnOk P w K mg base (L2.CX P w) 1 T.a_Room_undo T.fd_Room_undo ["self"] (spRmUndoX T.C_Room T.X_NothingToUndo) := by
  refine fnK_of T.F_Room_undo sc_Room_undo (fun vs H Q E h => ?_) (fun cdv A outer s H vs Q E hcd hr h => ?_)
  · obtain ⟨x, qp, G, n, ts, cur, rfl, _⟩ := h
    rfl
  · obtain ⟨x, qp, G, n, ts, cur, rfl, R, q⟩ := h
    obtain ⟨dx, pp, np, rp, h1, h2, h3, h4, h5⟩ := R.obj
    obtain ⟨ps, h6, h7⟩ := R.past
    refine ⟨_, (pss_cons (ps_if (pt_cmpR (op_eqE hr.units0) (pe_fld (pv 0) rfl) (pe_lst pa_nil) (nomark _))
      (pss_one (ps_raise rfl (takes_of rfl rfl rfl rfl) (pmk_bare PySem.F.excBase_LookupError T.xi_NothingToUndo T.xm_NothingToUndo T.xk_NothingToUndo (raises_own T.xs_NothingToUndo T.xt_NothingToUndo) rfl)))
      pss_nil)
    (pss_one (ps_asg (pe_bm0 PySem.F.plainAttrs_list PySem.F.slot_list_pop PySem.F.type_list_pop mt_pop (pe_fld (pv 0) rfl)) (pg_tup rfl (pgs_cons (pg_fld (pv 0)) (pgs_cons (pg_fld (pv 0)) pgs_nil)))))), ?_⟩
    rw [show start ["self"] [.ref x] = [some (.ref x)] from rfl]
    walk_at "go"
    refine g_kFld h1 T.cl_Room T.nA_Room_past rf_past ?_
    walk_at "go"
    cases ps with
    | cons _ _ => have := h7.length; simp at this
    | nil =>
      refine g_kT ?_
      exact q _ ((Kp.refl _ _).put (by assumption))
end
end Ap


namespace Ap
open PySem L2 PySem.Spec PyProof.Rows
theorem take_succT {α : Type} {xs : List α} {i : Nat} {x : α} (h : xs[i]? = some x) : xs.take (i + 1) = xs.take i ++ [x] := by rw [List.take_add_one, h]; rfl
theorem Da.kp0 {P : Addr → Prop} {H H' : Hp} {v : V} {d : PyData} (h : Da P H v d) (k : Kp [] H H') : Da P H' v d := h.keep k (fun _ _ => nin0) fun _ h => h
mutual
/-- what stands somewhere is not where nothing stands -/
theorem Da.live {P : Addr → Prop} {H : Hp} {q : Addr} (hq : H q = none) : ∀ {d : PyData} {v : V}, Da P H v d → Da (fun b => P b ∧ b ≠ q) H v d
  | _, _, .non => .non
  | _, _, .bl b => .bl b
  | _, _, .int i => .int i
  | _, _, .str x => .str x
  | _, _, .lst p h a => .lst ⟨p, ne_of_none h hq⟩ h (DaAll.live hq a)
  | _, _, .tup p h a => .tup ⟨p, ne_of_none h hq⟩ h (DaAll.live hq a)
theorem DaAll.live {P : Addr → Prop} {H : Hp} {q : Addr} (hq : H q = none) : ∀ {ds : List PyData} {vs : List V}, DaAll P H vs ds → DaAll (fun b => P b ∧ b ≠ q) H vs ds
  | _, _, .nil => .nil
  | _, _, .cons h t => .cons (Da.live hq h) (DaAll.live hq t)
end
theorem Rm.imp {C x qp : Addr} {G G' : Addr → Prop} {n : Nat} {ts : List Tie} {hs : List RS} {cur : RS} {H : Hp} (h : Rm C x qp G n ts hs cur H) (w : ∀ b, G b → G' b) : Rm C x qp G' n ts hs cur H := by
  obtain ⟨dx, pp, np, rp, h1, h2, ⟨h30, ds, h31, h32, h33⟩, h4, h5⟩ := h.obj
  obtain ⟨ps, h6, h7⟩ := h.past
  exact ⟨h.ne, ⟨dx, pp, np, rp, h1, h2.imp fun b hb => ⟨hb.1, hb.2.1, w _ hb.2.2⟩, ⟨⟨h30.1, h30.2.1, w _ h30.2.2⟩, ds, h31, h32, fun k d e => ⟨⟨(h33 k d e).1.1, (h33 k d e).1.2.1, w _ (h33 k d e).1.2.2⟩, (h33 k d e).2⟩⟩, ⟨h4.1, h4.2.1, w _ h4.2.2⟩, h5⟩, ⟨ps, h6, h7.imp fun b hb => ⟨hb.1, hb.2.1, w _ hb.2.2⟩⟩⟩
def spRmInit (C : Addr) (tb : List Addr) : Sp := fun vs H Q _ => ∃ (H0 : Hp) (x dx rp : Addr) (tv : V) (n : Nat) (ts : List Tie) (row : List Int), vs = [.ref x, .int n, tv, .ref rp] ∧ H = upd (upd H0 dx (.own x)) x (.ins C dx []) ∧ H0 x = none ∧ H0 dx = none ∧ dx ≠ x ∧
  Nt H0 tv ts ∧ H0 rp = some (.lst (row.map V.int)) ∧ NetS (up n) ts ∧ 3 ≤ n ∧ n ≤ 40 ∧ Stand n row ∧ Tabs tb H0 ∧ ∀ qp H', H0 qp = none → Kp [] H0 H' → Rm C x qp (fun b => H0 b = none) n ts [] (row, 0) H' → Q .non H'
section
variable {P : Program} {w : World} {K : PySem.W.Frag} {mg : Str → Option Value} {base : Heap}
theorem ok_Room_ties (T : Txt P K mg base) : FnOk P w K mg base CX0 1 T.a_Room_ties T.fd_Room_ties ["self"] (spRmTies T.C_Room) := by
  refine fnK_of0 T.F_Room_ties sc_Room_ties (fun vs H Q E h => ?_) (fun cdv A outer s H vs Q E hcd hr h => ?_)
  · obtain ⟨x, qp, G, n, ts, hs, cur, rfl, _⟩ := h
    rfl
  · obtain ⟨x, qp, G, n, ts, hs, cur, rfl, R, ok, q⟩ := h
    obtain ⟨dx, pp, np, rp, h1, h2, h3, h4, h5⟩ := R.obj
    have few : ts.length ≤ 1000 := by have := ok.net.few; have := ok.hi; omega
    obtain ⟨tp, tx, e, -, htp, htx⟩ := h2.list_inv
    cases e
    have ltx : tx.length = ts.length := by rw [htx.length, List.length_map]
    refine ⟨_, (pss_one (ps_ret (pe_lc (own := [("tie", 1)]) (g := gName 1) (tt := tYes) rfl sc_Room_ties.nd (pi_list (pe_fld (pv 0) rfl)) (blkOk_by (N := ["self", "tie"]) (sc := defScope s_Room_ties) (by decide +kernel)) (fun _ _ _ _ _ => (pg_name (i := 1) sc_Room_ties.nd rfl (Or.inl rfl))) (fun _ _ _ _ _ => pts_nil) (fun _ _ _ _ _ => (pe_callTy (r := rLo K) cr_list (by rfl) T.n_list (by decide +kernel) (pa_cons (pv 1) pa_nil)))))), ?_⟩
    rw [show start ["self", "tie"] [.ref x] = [some (.ref x), none] from rfl]
    walk_at "go"
    refine g_kFld h1 T.cl_Room T.nA_Room_pairs rf_pairs ?_
    walk_at "go"
    refine g_lc (walk_list (xs := tx)) (w0 := [some (.ref x), none]) rfl fun D hD =>
      ⟨fun j G => ∃ zs : List V, zs.length = j ∧ G D = some (.lst zs) ∧ DaAll (fun b => H b = none ∧ b ≠ D) G zs ((ts.take j).map tieD) ∧ Kp [] H G,
        ⟨[], rfl, upd_same, .nil, Kp.new hD⟩, fun j G _ h => ?_, ?_, ?_⟩
    · obtain ⟨_, _, _, _, h⟩ := h
      exact SqL.of (h.lst nin0 htp)
    · rintro j y G G' hj ⟨zs, lz, hG, hzs, kG⟩ ⟨rfl, hy⟩
      obtain ⟨dd, hdd, hyd⟩ := htx.getV hy
      rw [List.getElem?_map] at hdd
      obtain ⟨t, ht, rfl⟩ := Option.map_eq_some_iff.mp hdd
      obtain ⟨pq, rfl, pq0, hpq⟩ := Da.ints_inv (ns := [t.1, t.2]) hyd
      have hpq : H pq = some (.lst [.int t.1, .int t.2]) := hpq
      have hpq := kG.lst nin0 hpq
      rw [ltx] at hj
      walk_at "go"
      refine g_kLg rfl ?_
      walk_at "go"
      rename_i e he
      have eD : e ≠ D := fun z => by rw [z, hG] at he; cases he
      have hD2 : (upd G' e (.lst [.int t.1, .int t.2])) D = some (.lst zs) := by rw [upd_ne (Ne.symm eD)]; exact hG
      refine g_kLe hD2 (triv_szl (by omega)) ⟨zs ++ [.ref e], by rw [List.length_append, lz]; rfl, upd_same, ?_, (kG.put (kG.free he)).put hD⟩
      rw [take_succT ht, List.map_append]
      have e9 : DaAll (fun b => H b = none ∧ b ≠ D) (upd (upd G' e (.lst [.int t.1, .int t.2])) D (.lst (zs ++ [.ref e]))) zs ((ts.take j).map tieD) := ((hzs.fresh he).other fun b hb => hb.1.2).imp fun b hb => hb.1
      exact e9.append (.cons (.lst ⟨kG.free he, eD⟩ (by rw [upd_ne eD]; exact upd_same) (.cons (.int _) (.cons (.int _) .nil))) .nil)
    rintro G ⟨zs, lz, hG, hzs, kG⟩
    rw [ltx, List.take_of_length_le (Nat.le_refl _)] at hzs
    clear lz
    exact q D G kG (.lst hD hG (hzs.imp fun b hb => hb.1))
theorem ok_Room___init__ (T : Txt P K mg base) : FnOk P w K mg base CX0 6 T.a_Room___init__ T.fd_Room___init__ ["self", "seats", "ties", "standing"] (spRmInit T.C_Room T.tbs) := by
  refine fnK_of0 T.F_Room___init__ sc_Room___init__ (fun vs H Q E h => ?_) (fun cdv A outer s H vs Q E hcd hr h => ?_)
  · obtain ⟨H0, x, dx, rp, tv, n, ts, row, rfl, _⟩ := h
    rfl
  · obtain ⟨H0, x, dx, rp, tv, n, ts, row, rfl, rfl, x0, dx0, ne, hN, hp, net, lo, hi, hrow, hT, q⟩ := h
    have few : ts.length ≤ 1000 := by have := net.few; omega
    have kA : Kp [] H0 (upd (upd H0 dx (.own x)) x (.ins T.C_Room dx [])) := ((Kp.refl _ _).put dx0).put x0
    have eA : upd (upd H0 dx (HO.own x)) x (HO.ins T.C_Room dx []) x = some (.ins T.C_Room dx []) := upd_same
    generalize upd (upd H0 dx (HO.own x)) x (HO.ins T.C_Room dx []) = HA at *
    refine ⟨_, (pss_cons (ps_expr (pe_call (ok_check_net T) (hr.mono (by decide)) rfl T.m_check_net T.F_check_net.kp T.b_check_net .nil pass0 (pa_cons (pv 1) (pa_cons (pv 2) pa_nil))))
    (pss_cons (ps_expr (pe_call (ok_check_standing T) (hr.mono (by decide)) rfl T.m_check_standing T.F_check_standing.kp T.b_check_standing .nil pass0 (pa_cons (pv 1) (pa_cons (pv 3) pa_nil))))
    (pss_cons (ps_fld (pv 0) (pv 1) rfl)
    (pss_cons (ps_fld (pv 0) (pe_lc (own := [("tie", 4)]) (g := gName 4) (tt := tYes) rfl sc_Room___init__.nd (pi_list (pv 2)) (blkOk_by (N := ["self", "seats", "ties", "standing", "tie"]) (sc := defScope s_Room___init__) (by decide +kernel)) (fun _ _ _ _ _ => (pg_name (i := 4) sc_Room___init__.nd rfl (Or.inl rfl))) (fun _ _ _ _ _ => pts_nil) (fun _ _ _ _ _ => (pe_callTy (r := rLo K) cr_list (by rfl) T.n_list (by decide +kernel) (pa_cons (pv 4) pa_nil)))) rfl)
    (pss_cons (ps_fld (pv 0) (pe_call (ok_near_in T) (hr.mono (by decide)) rfl T.m_near_in T.F_near_in.kp T.b_near_in .nil pass0 (pa_cons (pv 1) (pa_cons (pv 2) pa_nil))) rfl)
    (pss_cons (ps_fld (pv 0) (pe_callTy cr_list (by rfl) T.n_list (by decide +kernel) (pa_cons (pv 3) pa_nil)) rfl)
    (pss_cons (ps_fld (pv 0) pe_int rfl)
    (pss_one (ps_fld (pv 0) (pe_lst pa_nil) rfl))))))))), ?_⟩
    rw [show start ["self", "seats", "ties", "standing", "tie"] [.ref x, .int n, tv, .ref rp] = [some (.ref x), some (.int n), some (tv), some (.ref rp), none] from rfl]
    walk_at "go"
    refine ⟨n, ts, tv, rfl, lo, hi, net, hN.kp kA, kA.tabs hT, fun H1 k1 => ?_⟩
    have e1 := k1.keep x _ nin0 eA (fun _ z => nomatch z)
    have k1 := kA.trans k1
    clear eA kA
    walk_at "go"
    refine ⟨rp, row, n, rfl, k1.lst nin0 hp, hi, hrow, fun H2 k2 => ?_⟩
    have e2 := k2.keep x _ nin0 e1 (fun _ z => nomatch z)
    have k2 := k1.trans k2
    clear e1 k1
    walk_at "go"
    refine g_kSf2 (fs' := [("many", .int n)]) e2 T.cl_Room T.nA_Room_many (by show 0 < 1000; decide) (by with_unfolding_all rfl) ?_
    have k3 : Kp [] H0 (upd H2 x (.ins T.C_Room dx [("many", .int n)])) := k2.put x0
    have e3 : upd H2 x (HO.ins T.C_Room dx [("many", .int n)]) x = some (.ins T.C_Room dx [("many", .int n)]) := upd_same
    generalize upd H2 x (HO.ins T.C_Room dx [("many", .int n)]) = H3 at *
    clear e2 k2
    have hN3 := hN.kp k3
    obtain ⟨tp, tx, rfl, -, htp, htx⟩ := hN3.list_inv
    walk_at "go"
    have ltx : tx.length = ts.length := by rw [htx.length, List.length_map]
    refine g_lc (walk_list (xs := tx)) (w0 := [some (.ref x), some (.int n), some (.ref tp), some (.ref rp), none]) rfl fun D hD =>
      ⟨fun j G => ∃ zs : List V, zs.length = j ∧ G D = some (.lst zs) ∧ DaAll (fun b => H3 b = none ∧ b ≠ D) G zs ((ts.take j).map tieD) ∧ Kp [] H3 G,
        ⟨[], rfl, upd_same, .nil, Kp.new hD⟩, fun j G _ h => ?_, ?_, ?_⟩
    · obtain ⟨_, _, _, _, h⟩ := h
      exact SqL.of (h.lst nin0 htp)
    · rintro j y G G' hj ⟨zs, lz, hG, hzs, kG⟩ ⟨rfl, hy⟩
      obtain ⟨dd, hdd, hyd⟩ := htx.getV hy
      rw [List.getElem?_map] at hdd
      obtain ⟨t, ht, rfl⟩ := Option.map_eq_some_iff.mp hdd
      obtain ⟨pq, rfl, pq0, hpq⟩ := Da.ints_inv (ns := [t.1, t.2]) hyd
      have hpq : H3 pq = some (.lst [.int t.1, .int t.2]) := hpq
      have hpq := kG.lst nin0 hpq
      rw [ltx] at hj
      walk_at "go"
      refine g_kLg rfl ?_
      walk_at "go"
      rename_i e he
      have eD : e ≠ D := fun z => by rw [z, hG] at he; cases he
      have hD2 : (upd G' e (.lst [.int t.1, .int t.2])) D = some (.lst zs) := by rw [upd_ne (Ne.symm eD)]; exact hG
      refine g_kLe hD2 (triv_szl (by omega)) ⟨zs ++ [.ref e], by rw [List.length_append, lz]; rfl, upd_same, ?_, (kG.put (kG.free he)).put hD⟩
      rw [take_succT ht, List.map_append]
      have e9 : DaAll (fun b => H3 b = none ∧ b ≠ D) (upd (upd G' e (.lst [.int t.1, .int t.2])) D (.lst (zs ++ [.ref e]))) zs ((ts.take j).map tieD) := ((hzs.fresh he).other fun b hb => hb.1.2).imp fun b hb => hb.1
      exact e9.append (.cons (.lst ⟨kG.free he, eD⟩ (by rw [upd_ne eD]; exact upd_same) (.cons (.int _) (.cons (.int _) .nil))) .nil)
    rintro G ⟨zs, lz, hG, hzs, kG⟩
    rw [ltx, List.take_of_length_le (Nat.le_refl _)] at hzs
    clear lz
    have e4 := kG.keep x _ nin0 e3 (fun _ z => nomatch z)
    have k4 := k3.trans kG
    have D0 : H0 D = none := k3.free hD
    walk_at "go"
    refine g_kSf2 (fs' := [("many", .int n), ("pairs", .ref D)]) e4 T.cl_Room T.nA_Room_pairs (by show 1 < 1000; decide) (by with_unfolding_all rfl) ?_
    have xD : x ≠ D := ne_of_none e3 hD
    have k5 : Kp [] H0 (upd G x (.ins T.C_Room dx [("many", .int n), ("pairs", .ref D)])) := k4.put x0
    have e5 : upd G x (HO.ins T.C_Room dx [("many", .int n), ("pairs", .ref D)]) x = some (.ins T.C_Room dx [("many", .int n), ("pairs", .ref D)]) := upd_same
    have hpr : Da (fun b => H0 b = none ∧ b ≠ x) (upd G x (.ins T.C_Room dx [("many", .int n), ("pairs", .ref D)])) (.ref D) (netD ts) :=
      .lst ⟨D0, Ne.symm xD⟩ (by rw [upd_ne (Ne.symm xD)]; exact hG) ((hzs.keep (P' := fun b => H0 b = none ∧ b ≠ x) ((Kp.refl [x] G).mut (by simp) e4 (ntb rfl)) (fun b hb => nin1 fun z => by rw [z, e3] at hb; cases hb.1) fun b hb => ⟨k3.free hb.1, fun z => by rw [z, e3] at hb; cases hb.1⟩))
    generalize upd G x (HO.ins T.C_Room dx [("many", .int n), ("pairs", .ref D)]) = H5 at *
    clear hzs hG kG e4 k4 e3 hN3 htp htx hD
    walk_at "go"
    refine ⟨n, ts, .ref tp, rfl, hi, net, hN.kp k5, fun np ds H6 k6 hnear => ?_⟩
    have e6 := k6.keep x _ nin0 e5 (fun _ z => nomatch z)
    have hpr6 := hpr.kp0 k6
    have np0 : H0 np = none := k5.free hnear.new
    have npx : np ≠ x := fun z => by have := hnear.new; rw [z, e5] at this; cases this
    have dsn : ∀ (k : Nat) d, ds[k]? = some d → (H0 d = none ∧ d ≠ x) ∧ H6 d = some (.dK (nkv (nearL ts k))) := fun k d e => by
      have := (hnear.news d (List.mem_of_getElem? e)).1
      exact ⟨⟨k5.free this, fun z => by rw [z, e5] at this; cases this⟩, hnear.dct k d e⟩
    have nl := hnear.lst
    have nlen := hnear.len
    have k6 := k5.trans k6
    clear hnear hpr e5 k5
    walk_at "go"
    refine g_kSf2 (fs' := [("many", .int n), ("pairs", .ref D), ("near", .ref np)]) e6 T.cl_Room T.nA_Room_near (by show 2 < 1000; decide) (by with_unfolding_all rfl) ?_
    walk_at "go"
    rename_i r hr7
    have xr : x ≠ r := fun z => by rw [← z, upd_same] at hr7; cases hr7
    have r6 : H6 r = none := by rw [upd_ne (Ne.symm xr)] at hr7; exact hr7
    refine g_kSf2 (fs' := [("many", .int n), ("pairs", .ref D), ("near", .ref np), ("row", .ref r)]) (by rw [upd_ne xr]; exact upd_same) T.cl_Room T.nA_Room_row (by show 3 < 1000; decide) (by with_unfolding_all rfl) ?_
    walk_at "go"
    refine g_kSf2 (fs' := [("many", .int n), ("pairs", .ref D), ("near", .ref np), ("row", .ref r), ("changed", .int 0)]) upd_same T.cl_Room T.nA_Room_changed (by show 4 < 1000; decide) (by with_unfolding_all rfl) ?_
    walk_at "go"
    rename_i qp hq8
    have xq : x ≠ qp := fun z => by rw [← z, upd_same] at hq8; cases hq8
    rw [upd_ne (Ne.symm xq), upd_ne (Ne.symm xq)] at hq8
    have rq : r ≠ qp := fun z => by rw [← z, upd_same] at hq8; cases hq8
    rw [upd_ne (Ne.symm rq), upd_ne (Ne.symm xq)] at hq8
    refine g_kSf2 (fs' := rf n D np r 0 qp) (by rw [upd_ne xq]; exact upd_same) T.cl_Room T.nA_Room_past (by show 5 < 1000; decide) (by with_unfolding_all rfl) ?_
    have kF : ∀ {o1 o2 o3 o4 o5 o6 : HO}, Nat.beq (kd o1) 12 = false → Nat.beq (kd o2) 12 = false → Nat.beq (kd o3) 12 = false → Nat.beq (kd o4) 12 = false → Nat.beq (kd o5) 12 = false → Kp [x] H6 (upd (upd (upd (upd (upd (upd H6 x o1) r o2) x o3) x o4) qp o5) x o6) := fun {o1 o2 o3 o4 o5 o6} a1 a2 a3 a4 a5 => by
      have k1 : Kp [x] H6 (upd H6 x o1) := (Kp.refl _ _).mut (by simp) e6 (ntb rfl) (NC.some e6 rfl)
      exact ((((k1.put r6 (NC.step a1 (NC.none r6))).mut (by simp) e6 (ntb rfl) (NC.step a2 (NC.self a1))).mut (by simp) e6 (ntb rfl) (NC.self a3)).put hq8 (NC.step a4 (NC.step a3 (NC.step a2 (NC.step a1 (NC.none hq8)))))).mut (by simp) e6 (ntb rfl) (NC.step a5 (NC.self a4))
    have r0 : H0 r = none := k6.free r6
    have q0 : H0 qp = none := k6.free hq8
    have Dq : D ≠ qp := by
      obtain ⟨_, _, z, _, w1, _⟩ := hpr6.list_inv
      cases z
      exact ne_of_none w1 hq8
    refine q qp _ q0 ((((((k6.put x0).put r0).put x0).put x0).put q0).put x0) ⟨xq, ⟨dx, D, np, r, upd_same, ?_, ?_, ⟨Ne.symm xr, rq, r0⟩, ?_⟩, ⟨[], ?_, .nil⟩⟩
    · refine (hpr6.live hq8).keep (kF (by rfl) (by rfl) (by rfl) (by rfl) (by rfl)) (fun b hb => nin1 hb.1.2) fun b hb => ⟨hb.1.2, hb.2, hb.1.1⟩
    · refine ⟨⟨npx, ne_of_none nl hq8, np0⟩, ds, (kF (by rfl) (by rfl) (by rfl) (by rfl) (by rfl)).lst (nin1 npx) nl, nlen, fun k d e => ?_⟩
      obtain ⟨⟨d1, d2⟩, d3⟩ := dsn k d e
      exact ⟨⟨d2, ne_of_none d3 hq8, d1⟩, (kF (by rfl) (by rfl) (by rfl) (by rfl) (by rfl)).keep d _ (nin1 d2) d3 (fun _ z => nomatch z)⟩
    · rw [upd_ne (Ne.symm xr), upd_ne rq, upd_ne (Ne.symm xr), upd_ne (Ne.symm xr), upd_same]
    · rw [upd_ne (Ne.symm xq), upd_same]
end
end Ap


namespace Ap
open PySem L2
/-- a list, drawn into another order, and the drawer behind it -/
def shuf {α : Type} : Nat → Dst → List α → List α × Dst
  | 0, d, _ => ([], d)
  | n + 1, d, xs => match xs[(nxV d % xs.length).toNat]? with
    | some x => let r := shuf n (nxS d) (xs.eraseIdx (nxV d % xs.length).toNat); (x :: r.1, r.2)
    | none => ([], d)
theorem shuf_succ {α : Type} (n : Nat) (d : Dst) (xs : List α) : shuf (n + 1) d xs = match xs[(nxV d % xs.length).toNat]? with
    | some x => (x :: (shuf n (nxS d) (xs.eraseIdx (nxV d % xs.length).toNat)).1, (shuf n (nxS d) (xs.eraseIdx (nxV d % xs.length).toNat)).2)
    | none => ([], d) := rfl
theorem erase_perm {α : Type} : ∀ {l : List α} {z : Nat} (h : z < l.length), (l[z] :: l.eraseIdx z).Perm l
  | _ :: _, 0, _ => List.Perm.refl _
  | a :: r, z + 1, h => (List.Perm.swap a _ _).trans ((erase_perm (l := r) (z := z) (by simpa using h)).cons a)
theorem shuf_at {n : Int} {d : Dst} (h : 0 < n) : (nxV d % n).toNat < n.toNat := by
  have := Int.emod_nonneg (nxV d) (b := n) (by omega)
  have := Int.emod_lt_of_pos (nxV d) h
  omega
theorem shuf_perm {α : Type} : ∀ (n : Nat) (d : Dst) (xs : List α), xs.length = n → (shuf n d xs).1.Perm xs
  | 0, d, xs, h => by
    obtain rfl := List.length_eq_zero_iff.mp h
    exact .refl _
  | n + 1, d, xs, h => by
    have lt : (nxV d % xs.length).toNat < xs.length := by
      have := shuf_at (n := xs.length) (d := d) (by omega)
      simpa using this
    unfold shuf
    rw [List.getElem?_eq_getElem lt]
    exact ((shuf_perm n (nxS d) (xs.eraseIdx (nxV d % xs.length).toNat) (by rw [List.length_eraseIdx_of_lt lt]; omega)).cons _).trans (erase_perm lt)
theorem shuf_ok {α : Type} : ∀ (n : Nat) (d : Dst) (m : Nat) (xs : List α), Dok d m → Dok (shuf n d xs).2 (m + n)
  | 0, d, m, xs, h => h
  | n + 1, d, m, xs, h => by
    unfold shuf
    split
    · have := shuf_ok n (nxS d) (m + 1) (xs.eraseIdx (nxV d % xs.length).toNat) h.next
      exact this.mono (by omega)
    · exact h.mono (by omega)
theorem eraseIdx_map' {α β : Type} (f : α → β) : ∀ (l : List α) (i : Nat), (l.map f).eraseIdx i = (l.eraseIdx i).map f
  | [], _ => rfl
  | _ :: _, 0 => rfl
  | a :: r, i + 1 => by
    show f a :: (r.map f).eraseIdx i = f a :: (r.eraseIdx i).map f
    rw [eraseIdx_map' f r i]
theorem shuf_map {α β : Type} (f : α → β) : ∀ (n : Nat) (d : Dst) (xs : List α), shuf n d (xs.map f) = ((shuf n d xs).1.map f, (shuf n d xs).2)
  | 0, d, xs => rfl
  | n + 1, d, xs => by
    unfold shuf
    rw [List.length_map, List.getElem?_map, eraseIdx_map']
    cases xs[(nxV d % xs.length).toNat]? with
    | none => rfl
    | some x =>
      show _ = (f x :: _, _)
      simp only [Option.map_some, shuf_map f n]
/-- exact -/
def spMixX : Sp := fun vs H Q _ => ∃ (a p : Addr) (m : Nat) (d : Dst) (xs : List V), vs = [.ref a, .ref p] ∧ DrAt a d H ∧ Dok d m ∧ H p = some (.lst xs) ∧ p ≠ a ∧ m + xs.length < 2 ^ 40 ∧ xs.length ≤ 100000 ∧
  ∀ (q : Addr) (H' : Hp), H q = none → Kp [a] H H' → DrAt a (shuf xs.length d xs).2 H' → H' q = some (.lst (shuf xs.length d xs).1) → Q (.ref q) H'
/-- any list, drawn into another order -/
def spMixed : Sp := fun vs H Q _ => ∃ (a p : Addr) (m : Nat) (xs : List V), vs = [.ref a, .ref p] ∧ Draws a m H ∧ H p = some (.lst xs) ∧ p ≠ a ∧ m + xs.length < 2 ^ 40 ∧ xs.length ≤ 100000 ∧
  ∀ (q : Addr) (ys : List V) (H' : Hp), H q = none → ys.Perm xs → Kp [a] H H' → Draws a (m + xs.length) H' → H' q = some (.lst ys) → Q (.ref q) H'
section
variable {P : Program} {w : World} {K : PySem.W.Frag} {mg : Str → Option Value} {base : Heap}
theorem ok_mixX (T : Txt P K mg base) : FnG P w K mg base CX0 2 T.a_Lmixed T.fd_Lmixed ["_law_draws_here", "_law_some"] spMixX := by
  refine fnG_of0 T.F_Lmixed sc_Lmixed (fun vs H Q E h => ?_) (fun cdv A outer s H vs Q E hcd hr gd h => ?_)
  · obtain ⟨a, p, m, d, xs, rfl, _⟩ := h
    rfl
  · obtain ⟨a, p, m, d, xs, rfl, hD, hk, hp, hpa, hm, hx, q⟩ := h
    refine ⟨_, (pss_cons (ps_set (i := 2) sc_Lmixed.nd rfl (Or.inl rfl) (pe_callTy cr_list (by rfl) T.n_list (by decide +kernel) (pa_cons (pv 1) pa_nil)))
    (pss_cons (ps_set (i := 3) sc_Lmixed.nd rfl (Or.inl rfl) (pe_lst pa_nil))
    (pss_cons (ps_while PassesOwn.never (pt_cmpR (op_neE hr.units0) (pv 2) (pe_lst pa_nil) (nomark _))
      (pss_one (ps_expr (pe_bm PySem.F.plainAttrs_list PySem.F.slot_list_append PySem.F.type_list_append mt_append (pv 3) (pa_cons (pe_bm PySem.F.plainAttrs_list PySem.F.slot_list_pop PySem.F.type_list_pop mt_popAt (pv 2) (pa_cons (pe_op op_mod (pe_callTy cr_int (by rfl) T.n_int (by decide +kernel) (pa_cons (pe_callG (ok_nextX T) (hr.mono (by decide)) gd rfl T.m_Lnext T.F_Lnext.kp T.b_Lnext .nil pass0 (pa_cons (pv 0) pa_nil)) pa_nil)) (pe_callB cr_len (by rfl) T.n_len (by decide +kernel) (pa_cons (pv 2) pa_nil))) pa_nil)) pa_nil)))))
    (pss_one (ps_ret (pv 3)))))), ?_⟩
    rw [show start ["_law_draws_here", "_law_some", "_law_left", "_law_told"] [V.ref a, V.ref p] = [some (V.ref a), some (V.ref p), none, none] from rfl]
    walk_at "go"
    rename_i l hl t ht
    have ha : H a = some (.lst [.int d.1, .int d.2.1, .bl d.2.2]) := hD
    have la : l ≠ a := Ne.symm (ne_of_none ha hl)
    have tl : t ≠ l := fun z => by rw [z, upd_same] at ht; cases ht
    have ht0 : H t = none := by rw [upd_ne tl] at ht; exact ht
    have ta : t ≠ a := Ne.symm (ne_of_none ha ht0)
    refine g_whl (fun σ H' => σ = [some (.ref a), some (.ref p), some (.ref l), some (.ref t)] ∧ ∃ (d' : Dst) (rs ys : List V), H' l = some (.lst rs) ∧ H' t = some (.lst ys) ∧ ys.length + rs.length = xs.length ∧ ys ++ (shuf rs.length d' rs).1 = (shuf xs.length d xs).1 ∧ (shuf rs.length d' rs).2 = (shuf xs.length d xs).2 ∧ Kp [a] H H' ∧ DrAt a d' H' ∧ Dok d' (m + ys.length))
      (fun σ H' => match H' l with | some (.lst rs) => rs.length | _ => 0) ⟨rfl, d, xs, [], by walk_at "look", by walk_at "look", by simp, rfl, rfl, ((Kp.refl _ _).put hl).put ht0, by unfold DrAt; walk_at "look", hk⟩ ?_
    rintro σ' H' ⟨rfl, d', rs, ys, hl', ht', hlen, hS, hE, hK, hD', hk'⟩
    walk_at "go"
    rename_i n hn
    have nl : l ≠ n := ne_of_none hl' hn
    have nt : t ≠ n := ne_of_none ht' hn
    have h1 : H' a = some (.lst [.int d'.1, .int d'.2.1, .bl d'.2.2]) := hD'
    have na : a ≠ n := ne_of_none h1 hn
    refine g_kB (fun e => ?_) (fun e => ?_)
    · walk_at "go"
      have rs0 : 0 < rs.length := by
        cases rs with
        | nil => simp at e
        | cons _ _ => simp
      refine ⟨a, m + ys.length, d', rfl, by unfold DrAt; walk_at "look", hk', by omega, fun H2 k1 d1 => ?_⟩
      walk_at "go"
      have b0 : 0 ≤ nxV d' % (rs.length : Int) := Int.emod_nonneg _ (by omega)
      have b1 : nxV d' % (rs.length : Int) < (rs.length : Int) := Int.emod_lt_of_pos _ (by omega)
      obtain ⟨z, ez⟩ : ∃ z : Nat, nxV d' % (rs.length : Int) = (z : Int) := ⟨_, (Int.toNat_of_nonneg b0).symm⟩
      have zl : z < rs.length := by omega
      have hl2 : H2 l = some (.lst rs) := by walk_at "look"
      have ht2 : H2 t = some (.lst ys) := by walk_at "look"
      have sh : shuf rs.length d' rs = (rs[z] :: (shuf (rs.length - 1) (nxS d') (rs.eraseIdx z)).1, (shuf (rs.length - 1) (nxS d') (rs.eraseIdx z)).2) := by
        obtain ⟨j, hj⟩ : ∃ j, rs.length = j + 1 := ⟨rs.length - 1, by omega⟩
        have ez' : nxV d' % ((j + 1 : Nat) : Int) = (z : Int) := by rw [← hj]; exact ez
        rw [hj, shuf_succ, hj, ez', Int.toNat_natCast, List.getElem?_eq_getElem zl, Nat.add_sub_cancel]
      rw [ez]
      refine g_popAt (n := z) (y := rs[z]) hl2 rfl (List.getElem?_eq_getElem zl) (by omega) ?_
      walk_at "go"
      refine g_append (xs := ys) (by walk_at "look") (triv_szl (by omega)) ?_
      walk_at "go"
      have le : (rs.eraseIdx z).length = rs.length - 1 := List.length_eraseIdx_of_lt zl
      refine ⟨⟨rfl, nxS d', rs.eraseIdx z, ys ++ [rs[z]], by walk_at "look", by walk_at "look", ?_, ?_, ?_, ?_, ?_, ?_⟩, ?_⟩
      · rw [le, List.length_append, List.length_singleton]; omega
      · rw [le, List.append_assoc, ← hS, sh]; rfl
      · rw [le, ← hE, sh]
      · have k2 : Kp [a] H H2 := (hK.put (hK.free hn)).trans k1
        exact (k2.put hl).put ht0
      · unfold DrAt at d1 ⊢
        walk_at "look"
      · rw [List.length_append, List.length_singleton, ← Nat.add_assoc]
        exact hk'.next
      · have e1 : (upd (upd H2 l (HO.lst (rs.eraseIdx z))) t (HO.lst (ys ++ [rs[z]]))) l = some (.lst (rs.eraseIdx z)) := by walk_at "look"
        rw [e1, hl']
        show (rs.eraseIdx z).length < rs.length
        omega
    · walk_at "go"
      have er : rs = [] := by
        cases rs with
        | nil => rfl
        | cons _ _ => simp at e
      subst er
      have hS : ys ++ [] = _ := hS
      have hE : d' = _ := hE
      rw [List.append_nil] at hS
      refine q t _ ht0 (hK.put (hK.free hn)) ?_ ?_
      · unfold DrAt; rw [← hE]; walk_at "look"
      · rw [← hS]; walk_at "look"
theorem ok_Lmixed (T : Txt P K mg base) : FnG P w K mg base CX0 2 T.a_Lmixed T.fd_Lmixed ["_law_draws_here", "_law_some"] spMixed :=
  (ok_mixX T).imp fun vs H Q E h => by
    obtain ⟨a, p, m, xs, rfl, ⟨d, hd, hk⟩, hp, hpa, hm, hx, q⟩ := h
    exact ⟨a, p, m, d, xs, rfl, hd, hk, hp, hpa, hm, hx, fun z H' hz k e e2 => q z _ H' hz (shuf_perm _ d xs rfl) k ⟨_, e, shuf_ok _ _ _ _ hk⟩ e2⟩
end
end Ap


namespace Ap
open PySem L2
/-- what stands in a net's loop: the ties so far -/
structure NetHere (H : Hp) (a lp tp : Addr) (ls : List Int) (m c : Nat) (ts : List Tie) (H' : Hp) : Prop where
  few : ts.length ≤ c
  line : H' lp = some (.lst (ls.map V.int))
  ties : ∃ vs, H' tp = some (.lst vs) ∧ DaAll (fun b => H b = none ∧ b ≠ tp ∧ b ≠ lp) H' vs (ts.map tieD)
  kp : Kp [a] H H'
  dr : Draws a m H'
theorem NetHere.mono {H : Hp} {a lp tp : Addr} {ls : List Int} {m m' c c' : Nat} {ts : List Tie} {H' : Hp} (h : NetHere H a lp tp ls m c ts H') (l : m ≤ m') (l' : c ≤ c') : NetHere H a lp tp ls m' c' ts H' := ⟨Nat.le_trans h.few l', h.line, h.ties, h.kp, h.dr.mono l⟩
theorem NetHere.next {H : Hp} {a lp tp : Addr} {ls : List Int} {m c : Nat} {ts : List Tie} {H1 H2 : Hp} (h : NetHere H a lp tp ls m c ts H1) (ha : H a ≠ none) (hl : lp ≠ a) (ht : tp ≠ a) (k : Kp [a] H1 H2) (d : Draws a (m + 1) H2) : NetHere H a lp tp ls (m + 1) c ts H2 := by
  obtain ⟨vs, e, D⟩ := h.ties
  exact ⟨h.few, k.lst (nin1 hl) h.line, ⟨vs, k.lst (nin1 ht) e, D.keep k (fun b hb => nin1 fun z => ha (z ▸ hb.1)) fun _ hb => hb⟩, h.kp.trans k, d⟩
theorem NetHere.junk {H : Hp} {a lp tp q : Addr} {ls : List Int} {m c : Nat} {ts : List Tie} {H1 : Hp} {o : HO} (h : NetHere H a lp tp ls m c ts H1) (hq : H1 q = none) : NetHere H a lp tp ls m c ts (upd H1 q o) := by
  obtain ⟨vs, e, D⟩ := h.ties
  exact ⟨h.few, by rw [upd_ne (ne_of_none h.line hq)]; exact h.line, ⟨vs, by rw [upd_ne (ne_of_none e hq)]; exact e, D.keep (Kp.new (S := []) hq) (fun _ _ => nin0) fun _ hb => hb⟩, h.kp.put (h.kp.free hq), h.dr.new hq⟩
/-- one more tie, laid at q -/
theorem NetHere.add {H : Hp} {a lp tp q : Addr} {ls : List Int} {m c : Nat} {ts : List Tie} {H1 : Hp} {vs : List V} {x y : Int} (h : NetHere H a lp tp ls m c ts H1) (ha : H a ≠ none) (htp : H tp = none) (hlt : lp ≠ tp) (hq : H1 q = none) (e : H1 tp = some (.lst vs)) :
    NetHere H a lp tp ls m (c + 1) (ts ++ [(x, y)]) (upd (upd H1 q (.lst [.int x, .int y])) tp (.lst (vs ++ [.ref q]))) := by
  obtain ⟨vs', e', D⟩ := h.ties
  obtain rfl : vs' = vs := by rw [e] at e'; cases e'; rfl
  have qt : q ≠ tp := fun z => by rw [z, e] at hq; cases hq
  have ql : q ≠ lp := fun z => by rw [z, h.line] at hq; cases hq
  obtain ⟨dd, d1, d2⟩ := h.dr
  have qa : a ≠ q := fun z => h.dr.ne (by rw [z]; exact hq)
  have ta : a ≠ tp := fun z => ha (by rw [z]; exact htp)
  have K1 : Kp [tp] H1 (upd (upd H1 q (.lst [.int x, .int y])) tp (.lst (vs' ++ [.ref q]))) := ((Kp.refl _ _).put hq).mut (List.mem_singleton.mpr rfl) e (ntb rfl)
  refine ⟨by rw [List.length_append, List.length_singleton]; exact Nat.succ_le_succ h.few, ?_, ⟨vs' ++ [.ref q], upd_same, ?_⟩, (h.kp.put (h.kp.free hq)).put htp, ⟨dd, ?_, d2⟩⟩
  · rw [upd_ne hlt, upd_ne ql.symm]; exact h.line
  · rw [List.map_append]
    refine (D.keep K1 (fun b hb => nin1 hb.2.1) fun _ hb => hb).append (.cons (.lst ⟨h.kp.free hq, qt, ql⟩ (by rw [upd_ne qt, upd_same]) (.cons (.int x) (.cons (.int y) .nil))) .nil)
  · exact (upd_ne ta).trans ((upd_ne qa).trans d1)
def spNet : Sp := fun vs H Q _ => ∃ (a : Addr) (m : Nat) (most : Int), vs = [.ref a, .int most] ∧ Draws a m H ∧ m + 2000 < 2 ^ 40 ∧ 4 ≤ most ∧ most ≤ 40 ∧
  ∀ (p q : Addr) (n : Nat) (ts : List Tie) (H' : Hp), 3 ≤ n → (n : Int) ≤ most → NetS (up n) ts → H p = none → H' p = some (.tup [.int n, .ref q]) → Da (fun b => H b = none) H' (.ref q) (netD ts) → Kp [a] H H' → Draws a (m + 2000) H' → Q (.ref p) H'
section
variable {P : Program} {w : World} {K : PySem.W.Frag} {mg : Str → Option Value} {base : Heap}
theorem ok_Lnet (T : Txt P K mg base) : FnG P w K mg base CX0 3 T.a_Lnet T.fd_Lnet ["_law_draws_here", "_law_most"] spNet := by
  refine fnG_of0 T.F_Lnet sc_Lnet (fun vs H Q E h => ?_) (fun cdv A outer s H vs Q E hcd hr gd h => ?_)
  · obtain ⟨a, m, most, rfl, _⟩ := h
    rfl
  · obtain ⟨a, m, most, rfl, hD, hm, m1, m2, q⟩ := h
    refine ⟨_, (pss_cons (ps_set (i := 2) sc_Lnet.nd rfl (Or.inl rfl) (pe_op op_add pe_int (pe_op op_mod (pe_callTy cr_int (by rfl) T.n_int (by decide +kernel) (pa_cons (pe_callG (ok_Lnext T) (hr.mono (by decide)) gd rfl T.m_Lnext T.F_Lnext.kp T.b_Lnext .nil pass0 (pa_cons (pv 0) pa_nil)) pa_nil)) (pe_op op_sub (pv 1) pe_int))))
    (pss_cons (ps_set (i := 3) sc_Lnet.nd rfl (Or.inl rfl) (pe_op op_mod (pe_callTy cr_int (by rfl) T.n_int (by decide +kernel) (pa_cons (pe_callG (ok_Lnext T) (hr.mono (by decide)) gd rfl T.m_Lnext T.F_Lnext.kp T.b_Lnext .nil pass0 (pa_cons (pv 0) pa_nil)) pa_nil)) pe_int))
    (pss_cons (ps_set (i := 4) sc_Lnet.nd rfl (Or.inl rfl) (pe_callG (ok_Lmixed T) (hr.mono (by decide)) gd rfl T.m_Lmixed T.F_Lmixed.kp T.b_Lmixed .nil pass0 (pa_cons (pv 0) (pa_cons (pe_listRg rfl rfl T.n_list (prg_2 rfl T.n_range pe_int (pe_op op_add (pv 2) pe_int))) pa_nil))))
    (pss_cons (ps_set (i := 5) sc_Lnet.nd rfl (Or.inl rfl) (pe_lst pa_nil))
    (Evl.pss_cut (ps_for PassesOwn.never rfl (pi_range2 (by rfl) T.n_range (pa_cons pe_int (pa_cons (pv 2) pa_nil))) (pg_name (i := 6) sc_Lnet.nd rfl (Or.inl rfl))
      (pss_cons (ps_set (i := 7) sc_Lnet.nd rfl (Or.inl rfl) (pe_callTy cr_int (by rfl) T.n_int (by decide +kernel) (pa_cons (pe_callG (ok_Lnext T) (hr.mono (by decide)) gd rfl T.m_Lnext T.F_Lnext.kp T.b_Lnext .nil pass0 (pa_cons (pv 0) pa_nil)) pa_nil)))
      (Evl.pss_cut (ps_if (pt_cmpR op_in_seq (pv 3) (pe_lst (pa_cons pe_int (pa_cons pe_int pa_nil))) (by rfl))
        (pss_one (ps_expr (pe_bm PySem.F.plainAttrs_list PySem.F.slot_list_append PySem.F.type_list_append mt_append (pv 5) (pa_cons (pe_lst (pa_cons (pe_ix ix_list (pv 4) (pe_op op_sub (pv 6) pe_int) (fun _ _ => rfl)) (pa_cons (pe_ix ix_list (pv 4) (pv 6) (fun _ _ => rfl)) pa_nil))) pa_nil))))
        pss_nil)
      (Evl.pss_cut (ps_if (PW.pt (pw_or (pt_cmpR op_eq (pv 3) pe_int (nomark _)) (pw_or1 (PW.pt (pw_and (pt_cmpR op_eq (pv 3) pe_int (nomark _)) (pw_and1 (pt_cmpR op_gt (pe_op op_mod (pe_op op_fdiv (pv 7) pe_int) pe_int) pe_int (nomark _))))))))
        (pss_one (ps_expr (pe_bm PySem.F.plainAttrs_list PySem.F.slot_list_append PySem.F.type_list_append mt_append (pv 5) (pa_cons (pe_lst (pa_cons (pe_ix ix_list (pv 4) (pv 6) (fun _ _ => rfl)) (pa_cons (pe_ix ix_list (pv 4) (pe_op op_mod (pv 7) (pv 6)) (fun _ _ => rfl)) pa_nil))) pa_nil))))
        pss_nil)
      (pss_one (ps_for PassesOwn.never rfl (pi_list (pe_slice sl_list (pv 4) po_none (po_some (pv 6)))) (pg_name (i := 8) sc_Lnet.nd rfl (Or.inl rfl))
        (pss_one (ps_if (PW.pt (pw_and (pt_cmpR op_eq (pv 3) pe_int (nomark _)) (pw_and1 (pt_cmpR op_eq (pe_op op_mod (pe_callTy cr_int (by rfl) T.n_int (by decide +kernel) (pa_cons (pe_callG (ok_Lnext T) (hr.mono (by decide)) gd rfl T.m_Lnext T.F_Lnext.kp T.b_Lnext .nil pass0 (pa_cons (pv 0) pa_nil)) pa_nil)) pe_int) pe_int (nomark _)))))
          (pss_one (ps_expr (pe_bm PySem.F.plainAttrs_list PySem.F.slot_list_append PySem.F.type_list_append mt_append (pv 5) (pa_cons (pe_lst (pa_cons (pe_ix ix_list (pv 4) (pv 6) (fun _ _ => rfl)) (pa_cons (pv 8) pa_nil))) pa_nil))))
          pss_nil))))))))
    (Evl.pss_cut (ps_if (pt_cmpR op_eq (pv 3) pe_int (nomark _))
      (pss_one (ps_expr (pe_bm PySem.F.plainAttrs_list PySem.F.slot_list_append PySem.F.type_list_append mt_append (pv 5) (pa_cons (pe_lst (pa_cons (pe_ix ix_list (pv 4) pe_int (fun _ _ => rfl)) (pa_cons (pe_ix ix_list (pv 4) (pe_un un_neg pe_int) (fun _ _ => rfl)) pa_nil))) pa_nil))))
      pss_nil)
    (pss_one (ps_ret (pe_tup (pa_cons (pv 2) (pa_cons (pv 5) pa_nil))))))))))), ?_⟩
    rw [show start ["_law_draws_here", "_law_most", "_law_seats", "_law_kind", "_law_line", "_law_ties", "_law_at", "_law_pick", "_law_other"] [V.ref a, V.int most] = [some (.ref a), some (.int most), none, none, none, none, none, none, none] from rfl]
    walk_at "go"
    refine ⟨a, m, rfl, hD, by omega, fun r H1 r0 r1 k1 d1 => ?_⟩
    walk_at "go"
    refine ⟨a, m + 1, rfl, d1, by omega, fun r' H2 r0' r1' k2 d2 => ?_⟩
    walk_at "go"
    have e0 : 0 ≤ r % (most - 2) := Int.emod_nonneg _ (by omega)
    have e1 : r % (most - 2) < most - 2 := Int.emod_lt_of_pos _ (by omega)
    obtain ⟨n, en⟩ : ∃ n : Nat, 3 + r % (most - 2) = (n : Int) := ⟨(3 + r % (most - 2)).toNat, by omega⟩
    rw [en]
    have n3 : 3 ≤ n := by omega
    have nm : (n : Int) ≤ most := by omega
    generalize ek : r' % 6 = kind
    walk_at "go"
    rename_i u hu
    rw [rgV_up]
    have ua : u ≠ a := fun z => d2.ne (by rw [← z]; exact hu)
    refine ⟨a, u, m + 1 + 1, (up n).map V.int, rfl, d2.new hu, upd_same, ua, ?_, ?_, fun lp ys H3 hlp hys k3 d3 h3 => ?_⟩
    · rw [List.length_map, up_length]; omega
    · rw [List.length_map, up_length]; omega
    obtain ⟨ls, rfl, hls⟩ := ints_perm hys
    have kH3 : Kp [a] H H3 := (k1.trans k2).trans ((Kp.new hu).trans k3)
    have hlp0 : H lp = none := (k1.trans k2).free ((Kp.new (S := [a]) hu).free hlp)
    have ll : ls.length = n := by rw [hls.length_eq, up_length]
    have lnd : ls.Nodup := hls.nodup_iff.mpr (up_nodup n)
    walk_at "go"
    rename_i tp htp
    have htp0 : H tp = none := kH3.free htp
    have Ha : H a ≠ none := hD.ne
    have la : lp ≠ a := fun z => Ha (z ▸ hlp0)
    have ta : tp ≠ a := fun z => Ha (z ▸ htp0)
    have lt : lp ≠ tp := ne_of_none h3 htp
    have start0 : NetHere H a lp tp ls (m + 50) 0 [] (upd H3 tp (.lst [])) := by
      refine ⟨Nat.le_refl _, by rw [upd_ne lt]; exact h3, ⟨[], upd_same, .nil⟩, kH3.put htp0, (d3.mono ?_).new htp⟩
      rw [List.length_map, up_length]; omega
    refine g_cut (fun σ' H' => ∃ x6 x7 x8 ts, σ' = [some (.ref a), some (.int most), some (.int n), some (.int kind), some (.ref lp), some (.ref tp), x6, x7, x8] ∧ NetHere H a lp tp ls (m + 50 + 50 * (n - 1)) (50 * (n - 1)) ts H' ∧ NetS (ls.take n) ts ∧ (kind = 4 → ∀ t ∈ ts, ∃ j, ls[j]? = some t.1 ∧ ls[j + 1]? = some t.2)) ?_ ?_
    · walk_at "go"
      refine g_forR (fun i σ' H' => ∃ x6 x7 x8 ts, σ' = [some (.ref a), some (.int most), some (.int n), some (.int kind), some (.ref lp), some (.ref tp), x6, x7, x8] ∧ NetHere H a lp tp ls (m + 50 + 50 * i) (50 * i) ts H' ∧ NetS (ls.take (i + 1)) ts ∧ (kind = 4 → ∀ t ∈ ts, ∃ j, ls[j]? = some t.1 ∧ ls[j + 1]? = some t.2))
        ⟨_, _, _, [], rfl, start0, NetS.nil _, fun _ _ z => nomatch z⟩ ?_ ?_
      · rintro i σ' H' hi ⟨x6, x7, x8, ts, rfl, hN, hS, h4⟩
        have hi2 : i + 1 < n := by omega
        have ey : ls[i]? = some ls[i] := List.getElem?_eq_getElem (by omega)
        have ex : ls[i + 1]? = some ls[i + 1] := List.getElem?_eq_getElem (by omega)
        generalize ls[i] = y at ey
        generalize ls[i + 1] = x at ex
        have xn : x ∉ ls.take (i + 1) := not_mem_take lnd ex
        have ext : ls.take (i + 1 + 1) = ls.take (i + 1) ++ [x] := take_succ' ex
        have atY : atI (ls.map V.int) (1 + (i : Int) - 1) = some (.int y) := atI_of (n := i) (by omega) (by rw [List.getElem?_map, ey]; rfl)
        have atX : atI (ls.map V.int) (1 + (i : Int)) = some (.int x) := atI_of (n := i + 1) (by omega) (by rw [List.getElem?_map, ex]; rfl)
        walk_at "go"
        refine ⟨a, m + 50 + 50 * i, rfl, hN.dr, by omega, fun pk Hn pk0 pk1 kn dn => ?_⟩
        have hN := hN.next Ha la ta kn dn
        clear kn dn
        have hl := hN.line
        obtain ⟨vs, ht, hvs⟩ := hN.ties
        walk_at "go"
        -- if kind in [1, 4]
        refine g_cut (fun σ' H' => ∃ ts, σ' = [some (.ref a), some (.int most), some (.int n), some (.int kind), some (.ref lp), some (.ref tp), some (.int (1 + (i : Int))), some (.int pk), x8] ∧ NetHere H a lp tp ls (m + 50 + 50 * i + 1) (50 * i + 1) ts H' ∧
          ((kind ≠ 1 ∧ kind ≠ 4 ∧ NetS (ls.take (i + 1)) ts) ∨ ((kind = 1 ∨ kind = 4) ∧ NetS (ls.take (i + 1 + 1)) ts ∧ (kind = 4 → ∀ t ∈ ts, ∃ j, ls[j]? = some t.1 ∧ ls[j + 1]? = some t.2)))) ?_ ?_
        · walk_at "go"
          rename_i u hu
          have hN := hN.junk (o := .lst [V.int 1, V.int 4]) hu
          have hl := hN.line
          obtain ⟨vs, ht, hvs⟩ := hN.ties
          refine g_kB (fun e => ?_) (fun e => ?_)
          · have e' : kind = 1 ∨ kind = 4 := by
              rcases (by simpa [inV, eqV] using e : (1 : Int) = kind ∨ (4 : Int) = kind) with z | z <;> omega
            walk_at "go"
            rename_i v hv
            refine g_append (xs := vs) (by walk_at "look") (triv_szl ?_) ?_
            · have := hN.few; rw [hvs.length, List.length_map]; omega
            walk_at "go"
            refine ⟨ts ++ [(y, x)], rfl, hN.add Ha htp0 lt hv ht, .inr ⟨e', ?_, fun e4 t tm => ?_⟩⟩
            · rw [ext]
              exact (hS.new xn (mem_take ey (by omega))).2
            · rcases List.mem_append.mp tm with tm | tm
              · exact h4 e4 t tm
              · obtain rfl := List.mem_singleton.mp tm
                exact ⟨i, ey, ex⟩
          · have e' : kind ≠ 1 ∧ kind ≠ 4 := by
              have z : ¬ (1 : Int) = kind ∧ ¬ (4 : Int) = kind := by simpa [inV, eqV] using e
              omega
            walk_at "go"
            exact ⟨ts, rfl, hN.mono (Nat.le_refl _) (by omega), .inl ⟨e'.1, e'.2, hS⟩⟩
        · rintro σ' H' ⟨ts, rfl, hN, hcase⟩
          have hl := hN.line
          obtain ⟨vs, ht, hvs⟩ := hN.ties
          -- if kind == 2 or kind == 3 and ..
          refine g_cut (fun σ' H' => ∃ ts, σ' = [some (.ref a), some (.int most), some (.int n), some (.int kind), some (.ref lp), some (.ref tp), some (.int (1 + (i : Int))), some (.int pk), x8] ∧ NetHere H a lp tp ls (m + 50 + 50 * i + 1) (50 * i + 2) ts H' ∧
            ((kind = 5 ∧ NetS (ls.take (i + 1)) ts) ∨ (kind ≠ 5 ∧ NetS (ls.take (i + 1 + 1)) ts ∧ (kind = 4 → ∀ t ∈ ts, ∃ j, ls[j]? = some t.1 ∧ ls[j + 1]? = some t.2)))) ?_ ?_
          · have other : kind ≠ 2 → kind ≠ 3 → (kind = 5 ∧ NetS (ls.take (i + 1)) ts) ∨ (kind ≠ 5 ∧ NetS (ls.take (i + 1 + 1)) ts ∧ (kind = 4 → ∀ t ∈ ts, ∃ j, ls[j]? = some t.1 ∧ ls[j + 1]? = some t.2)) := fun k2 k3 => by
              rcases hcase with ⟨h1, h4', hS⟩ | ⟨hk, hS, h4'⟩
              · by_cases h5 : kind = 5
                · exact .inl ⟨h5, hS⟩
                · exact .inr ⟨h5, by rw [ext]; exact hS.mono fun z hz => List.mem_append_left _ hz, fun z => absurd z h4'⟩
              · exact .inr ⟨by omega, hS, h4'⟩
            have put : (kind = 2 ∨ kind = 3) → ∀ t1 t2, t1 = x → t2 ∈ ls.take (i + 1) → (kind = 5 ∧ NetS (ls.take (i + 1)) (ts ++ [(t1, t2)])) ∨ (kind ≠ 5 ∧ NetS (ls.take (i + 1 + 1)) (ts ++ [(t1, t2)]) ∧ (kind = 4 → ∀ t ∈ ts ++ [(t1, t2)], ∃ j, ls[j]? = some t.1 ∧ ls[j + 1]? = some t.2)) := fun hk t1 t2 e1 e2 => by
              subst e1
              rcases hcase with ⟨h1, h4', hS⟩ | ⟨hk', hS, h4'⟩
              · exact .inr ⟨by omega, by rw [ext]; exact (hS.new xn e2).1, fun z => absurd z h4'⟩
              · omega
            have b0 : 0 ≤ pk % (1 + (i : Int)) := Int.emod_nonneg _ (by omega)
            have b1 : pk % (1 + (i : Int)) < 1 + (i : Int) := Int.emod_lt_of_pos _ (by omega)
            obtain ⟨z, ez⟩ : ∃ z : Nat, pk % (1 + (i : Int)) = (z : Int) := ⟨_, (Int.toNat_of_nonneg b0).symm⟩
            have zl : z < ls.length := by omega
            have eu : ls[z]? = some ls[z] := List.getElem?_eq_getElem zl
            generalize ls[z] = uu at eu
            have atZ : atI (ls.map V.int) (pk % (1 + (i : Int))) = some (.int uu) := atI_of ez (by rw [List.getElem?_map, eu]; rfl)
            have doit : (kind = 2 ∨ kind = 3) → True := fun _ => trivial
            walk_at "go"
            refine g_kD (fun e => ?_) (fun e => ?_)
            · walk_at "go"
              rename_i v hv
              refine g_append (xs := vs) (by walk_at "look") (triv_szl ?_) ?_
              · have := hN.few; rw [hvs.length, List.length_map]; omega
              walk_at "go"
              exact ⟨_, rfl, hN.add Ha htp0 lt hv ht, put (.inl e) _ _ rfl (mem_take eu (by omega))⟩
            · walk_at "go"
              refine g_kD (fun e3 => ?_) (fun e3 => ?_)
              · walk_at "go"
                refine g_kD (fun e4 => ?_) (fun e4 => ?_)
                · walk_at "go"
                  rename_i v hv
                  refine g_append (xs := vs) (by walk_at "look") (triv_szl ?_) ?_
                  · have := hN.few; rw [hvs.length, List.length_map]; omega
                  walk_at "go"
                  exact ⟨_, rfl, hN.add Ha htp0 lt hv ht, put (.inr e3) _ _ rfl (mem_take eu (by omega))⟩
                · walk_at "go"
                  refine ⟨ts, rfl, hN.mono (Nat.le_refl _) (by omega), ?_⟩
                  rcases hcase with ⟨h1, h4', hS⟩ | ⟨hk', hS, h4'⟩
                  · exact .inr ⟨by omega, by rw [ext]; exact hS.mono fun z hz => List.mem_append_left _ hz, fun z => absurd z h4'⟩
                  · omega
              · walk_at "go"
                exact ⟨ts, rfl, hN.mono (Nat.le_refl _) (by omega), other e e3⟩
          · rintro σ' H' ⟨ts, rfl, hN, hcase⟩
            have hl := hN.line
            obtain ⟨vs, ht, hvs⟩ := hN.ties
            walk_at "go"
            rename_i u hu
            have ecut : cutV (ls.map V.int) none (some (1 + (i : Int))) = (ls.take (i + 1)).map V.int := by
              rw [cut_to (k := i + 1) (by omega) (by rw [List.length_map]; omega), List.map_take]
            rw [ecut]
            have hN0 := hN
            have hN := hN.junk (o := .lst ((ls.take (i + 1)).map V.int)) hu
            have hl := hN.line
            have hu0 : H u = none := hN0.kp.free hu
            have ul : u ≠ lp := Ne.symm (ne_of_none hN0.line hu)
            have ut : u ≠ tp := Ne.symm (ne_of_none ht hu)
            have ua : u ≠ a := fun z => Ha (by rw [← z]; exact hu0)
            walk_at "go"
            refine g_forL (xs := (ls.take (i + 1)).map V.int) (fun j σ' H' => ∃ x8 ts, σ' = [some (.ref a), some (.int most), some (.int n), some (.int kind), some (.ref lp), some (.ref tp), some (.int (1 + (i : Int))), some (.int pk), x8] ∧ H' u = some (.lst ((ls.take (i + 1)).map V.int)) ∧ NetHere H a lp tp ls (m + 50 + 50 * i + 1 + j) (50 * i + 2 + j) ts H' ∧
              ((kind = 5 ∧ NetS (ls.take (i + 1 + 1)) ts ∧ (∀ t ∈ ts, t.2 ≠ x ∧ (t.1 = x → t.2 ∈ ls.take j))) ∨ (kind ≠ 5 ∧ NetS (ls.take (i + 1 + 1)) ts ∧ (kind = 4 → ∀ t ∈ ts, ∃ j, ls[j]? = some t.1 ∧ ls[j + 1]? = some t.2))))
              ?_ (fun j σ' H' _ h => by obtain ⟨_, _, _, h, _⟩ := h; exact SqL.of h) ?_ ?_
            · refine ⟨_, ts, rfl, by walk_at "look", hN, ?_⟩
              rcases hcase with ⟨h5, hS⟩ | h
              · refine .inl ⟨h5, by rw [ext]; exact hS.mono fun z hz => List.mem_append_left _ hz, fun t ht => ⟨fun z => xn (z ▸ (hS.mem t ht).2.1), fun z => absurd (z ▸ (hS.mem t ht).1) xn⟩⟩
              · exact .inr h
            · clear hN hl
              rintro j w' σ' H' hj ⟨x8', ts, rfl, hu', hN, hcase⟩
              have hjl : j < i + 1 := by
                have := (List.getElem?_eq_some_iff.mp hj).1
                rw [List.length_map, List.length_take] at this
                omega
              obtain ⟨uu, e1, rfl⟩ : ∃ uu, ls[j]? = some uu ∧ w' = .int uu := by
                rw [List.getElem?_map, List.getElem?_take_of_lt hjl] at hj
                cases e : ls[j]? with
                | none => rw [e] at hj; cases hj
                | some uu => rw [e] at hj; cases hj; exact ⟨uu, rfl, rfl⟩
              have hl := hN.line
              obtain ⟨vs, ht, hvs⟩ := hN.ties
              walk_at "go"
              refine g_kD (fun e5 => ?_) (fun e5 => ?_)
              · walk_at "go"
                refine ⟨a, m + 50 + 50 * i + 1 + j, rfl, hN.dr, by omega, fun r Hn r0 r1 kn dn => ?_⟩
                have hu2 : Hn u = some (.lst ((ls.take (i + 1)).map V.int)) := kn.lst (nin1 ua) hu'
                have hN := hN.next Ha la ta kn dn
                clear kn dn
                have hl := hN.line
                obtain ⟨vs, ht, hvs⟩ := hN.ties
                rcases hcase with ⟨_, hS, hO⟩ | ⟨z, _⟩
                · walk_at "go"
                  refine g_kD (fun e0 => ?_) (fun e0 => ?_)
                  · walk_at "go"
                    rename_i v hv
                    refine g_append (xs := vs) (by walk_at "look") (triv_szl ?_) ?_
                    · have := hN.few; rw [hvs.length, List.length_map]; omega
                    walk_at "go"
                    have um : uu ∈ ls.take (i + 1) := mem_take e1 hjl
                    have ux : x ≠ uu := fun z => xn (z ▸ um)
                    refine ⟨_, _, rfl, ?_, hN.add Ha htp0 lt hv ht, .inl ⟨e5, ?_, fun t tm => ?_⟩⟩
                    · rw [upd_ne ut, upd_ne (ne_of_none hu2 hv)]; exact hu2
                    · refine hS.snoc (by rw [ext]; exact List.mem_append_right _ (List.mem_singleton.mpr rfl)) (by rw [ext]; exact List.mem_append_left _ um) ux fun s hs => ⟨fun z => ?_, fun z => (hO s hs).1 z.2⟩
                      exact not_mem_take lnd e1 (by rw [← show s.2 = uu from z.2]; exact (hO s hs).2 z.1)
                    · rcases List.mem_append.mp tm with tm | tm
                      · exact ⟨(hO t tm).1, fun z => by rw [take_succ' e1]; exact List.mem_append_left _ ((hO t tm).2 z)⟩
                      · obtain rfl := List.mem_singleton.mp tm
                        exact ⟨Ne.symm ux, fun _ => by rw [take_succ' e1]; exact List.mem_append_right _ (List.mem_singleton.mpr rfl)⟩
                  · walk_at "go"
                    exact ⟨_, ts, rfl, hu2, hN.mono (by omega) (by omega), .inl ⟨e5, hS, fun t tm => ⟨(hO t tm).1, fun z => by rw [take_succ' e1]; exact List.mem_append_left _ ((hO t tm).2 z)⟩⟩⟩
                · exact absurd e5 z
              · walk_at "go"
                rcases hcase with ⟨z, _⟩ | h
                · exact absurd z e5
                · exact ⟨_, ts, rfl, hu', hN.mono (by omega) (by omega), .inr h⟩
            · rintro σ' H' ⟨x8', ts, rfl, hu', hN, hcase⟩
              rw [List.length_map, List.length_take] at hN
              walk_at "go"
              refine ⟨_, _, _, ts, rfl, hN.mono (by omega) (by omega), ?_, ?_⟩
              · rcases hcase with ⟨_, h, _⟩ | ⟨_, h, _⟩
                · exact h
                · exact h
              · rcases hcase with ⟨h5, _⟩ | ⟨_, _, h⟩
                · intro z; omega
                · exact h
      · rintro σ' H' ⟨x6, x7, x8, ts, rfl, hN, hS, h4⟩
        walk_at "go"
        have e : ((n : Int) - 1).toNat = n - 1 := by omega
        rw [e] at hN hS
        rw [show n - 1 + 1 = n by omega] at hS
        exact ⟨_, _, _, ts, rfl, hN, hS, h4⟩
    · rintro σ' H' ⟨x6, x7, x8, ts, rfl, hN, hS, h4⟩
      have hl := hN.line
      obtain ⟨vs, ht, hvs⟩ := hN.ties
      rw [List.take_of_length_le (by omega)] at hS
      have e0 : ls[0]? = some ls[0] := List.getElem?_eq_getElem (by omega)
      have e1 : ls[n - 1]? = some ls[n - 1] := List.getElem?_eq_getElem (by omega)
      generalize ls[0] = y at e0
      generalize ls[n - 1] = x at e1
      have at0 : atI (ls.map V.int) 0 = some (.int y) := atI_of (n := 0) rfl (by rw [List.getElem?_map, e0]; rfl)
      have at1 : atI (ls.map V.int) (-1) = some (.int x) := by
        unfold atI ixN
        rw [if_neg (by omega), if_pos (by rw [List.length_map]; omega), List.length_map, ll, show (-1 + (n : Int)).toNat = n - 1 by omega]
        show (ls.map V.int)[n - 1]? = _
        rw [List.getElem?_map, e1]; rfl
      have xy : y ≠ x := fun z => by
        obtain ⟨h0, f0⟩ := List.getElem?_eq_some_iff.mp e0
        obtain ⟨h1, f1⟩ := List.getElem?_eq_some_iff.mp e1
        have := (List.getElem_inj lnd).mp (f0.trans (z.trans f1.symm))
        omega
      have pos : ∀ {i j : Nat} {z : Int}, ls[i]? = some z → ls[j]? = some z → i = j := fun {i j z} a b => by
        obtain ⟨h0, f0⟩ := List.getElem?_eq_some_iff.mp a
        obtain ⟨h1, f1⟩ := List.getElem?_eq_some_iff.mp b
        exact (List.getElem_inj lnd).mp (f0.trans f1.symm)
      have inup : ∀ z ∈ ls, z ∈ up n := fun z hz => hls.mem_iff.mp hz
      refine g_cut (fun σ' H' => ∃ ts, σ' = [some (.ref a), some (.int most), some (.int n), some (.int kind), some (.ref lp), some (.ref tp), x6, x7, x8] ∧ NetHere H a lp tp ls (m + 50 + 50 * (n - 1)) (50 * (n - 1) + 1) ts H' ∧ NetS ls ts) ?_ ?_
      · walk_at "go"
        refine g_kD (fun e4 => ?_) (fun e4 => ?_)
        · walk_at "go"
          rename_i v hv
          refine g_append (xs := vs) (by walk_at "look") (triv_szl ?_) ?_
          · have := hN.few; rw [hvs.length, List.length_map]; omega
          walk_at "go"
          refine ⟨_, rfl, hN.add Ha htp0 lt hv ht, hS.snoc (List.mem_of_getElem? e0) (List.mem_of_getElem? e1) xy fun s hs => ⟨fun z => ?_, fun z => ?_⟩⟩
          · obtain ⟨j, j1, j2⟩ := h4 e4 s hs
            rw [z.1] at j1
            rw [z.2] at j2
            have a1 := pos j1 e0
            have a2 := pos j2 e1
            omega
          · obtain ⟨j, j1, j2⟩ := h4 e4 s hs
            rw [z.1] at j1
            rw [z.2] at j2
            have a1 := pos j1 e1
            have a2 := pos j2 e0
            omega
        · walk_at "go"
          exact ⟨ts, rfl, hN.mono (by omega) (by omega), hS⟩
      · rintro σ' H' ⟨ts, rfl, hN, hS⟩
        obtain ⟨vs, ht, hvs⟩ := hN.ties
        walk_at "go"
        rename_i v hv
        refine q v tp n ts _ n3 nm (hS.mono inup) (hN.kp.free hv) upd_same (.lst htp0 (by rw [upd_ne (ne_of_none ht hv)]; exact ht) (hvs.keep (Kp.new (S := []) hv) (fun _ _ => nin0) fun _ h => h.1)) (hN.kp.put (hN.kp.free hv)) ((hN.dr.mono (by omega)).new hv)
end
end Ap


namespace Ap
open PySem L2 PySem.Spec PyProof.Rows
def spDraws : Sp := fun vs H Q _ => ∃ c : Int, vs = [.int c] ∧ ∀ p d H', H p = none → Kp [] H H' → DrAt p d H' → Dok d 0 → (c = 0 → d = (0, 0, false)) → Q (.ref p) H'
section
variable {P : Program} {w : World} {K : PySem.W.Frag} {mg : Str → Option Value} {base : Heap}
theorem ok_Ldraws (T : Txt P K mg base) : FnG P w K mg base CX0 1 T.a_Ldraws T.fd_Ldraws ["_law_cell"] spDraws := by
  refine fnG_of0 T.F_Ldraws sc_Ldraws (fun vs H Q E h => ?_) (fun cdv A outer s H vs Q E hcd hr gd h => ?_)
  · obtain ⟨c, rfl, _⟩ := h
    rfl
  · obtain ⟨c, rfl, q⟩ := h
    refine ⟨_, (pss_one (ps_ret (pe_lst (pa_cons (pe_op op_mod (pe_callTy cr_int (by rfl) T.n_int (by decide +kernel) (pa_cons (pv 0) pa_nil)) (pe_op op_powG (pe_op op_powG (pe_op op_powG pe_int pe_int) pe_int) pe_int)) (pa_cons pe_int (pa_cons (pe_cmpR op_ge (pv 0) (pe_op op_powG pe_int pe_int) (nomark _)) pa_nil)))))), ?_⟩
    rw [show start ["_law_cell"] [.int c] = [some (.int c)] from rfl]
    walk_at "go"
    rename_i p hp
    refine q p (_, _, _) _ hp ((Kp.refl _ _).put hp) upd_same ⟨Int.emod_nonneg _ (by decide +kernel), Int.le_refl _, Int.le_refl _⟩ fun e => ?_
    subst e
    rw [Int.zero_emod]
    congr 2
end
end Ap


namespace Ap
open PySem L2 PySem.Spec PyProof.Rows
theorem Fw.one {v : V} {o o' : Option Int} (h : Fw v o) (h' : Fw v o') : o = o' := by
  cases h <;> cases h' <;> rfl
/-- what is no tie -/
inductive BadTie (K : PySem.W.Frag) (H : Hp) (n : Nat) : V → Prop
  | notl {v : V} {T : String} (t : ∀ H', Kp [] H H' → TyX K H' v (.type T)) (k : kitB T "list" = some false) : BadTie K H n v
  | len {p : Addr} {zs : List V} (h : H p = some (.lst zs)) (l : zs.length ≠ 2) : BadTie K H n (.ref p)
  | out {p : Addr} {a b : V} {oa ob : Option Int} (h : H p = some (.lst [a, b])) (wa : Fw a oa) (wb : Fw b ob) (f : (inI oa n && inI ob n) = false) : BadTie K H n (.ref p)
  | same {p : Addr} {i : Int} (h : H p = some (.lst [.int i, .int i])) (h1 : 1 ≤ i) (h2 : i ≤ n) : BadTie K H n (.ref p)
def spTiesX (tb : List Addr) (K : PySem.W.Frag) (N : Addr) : Sp := fun vs H _ E => ∃ (n : Nat) (ts : List Tie) (p : Addr) (xs rest : List V) (bad : V), vs = [.int n, .ref p] ∧ NetS (up n) ts ∧ ts.length ≤ 900 ∧ H p = some (.lst (xs ++ bad :: rest)) ∧ DaAll (fun _ => True) H xs (ts.map tieD) ∧ BadTie K H n bad ∧ Tabs tb H ∧
  ∀ H' d, Kp [] H H' → H' d = none → E (.ref N) (some d) (upd H' d (.xd [("index", .int ts.length)]))
section
variable {P : Program} {w : World} {K : PySem.W.Frag} {mg : Str → Option Value} {base : Heap}
theorem ok_check_tiesX (T : Txt P K mg base) : FnOk P w K mg base (L2.CX P w) 4 T.a_check_ties T.fd_check_ties ["seats", "ties"] (spTiesX T.tbs K T.X_InvalidTies) := by
  refine fnK_of T.F_check_ties sc_check_ties (fun vs H Q E h => ?_) (fun cdv A outer s H vs Q E hcd hr h => ?_)
  · obtain ⟨n, ts, p, xs, rest, bad, rfl, _⟩ := h
    rfl
  · obtain ⟨n, ts, p, xs, rest, bad, rfl, hS, few, hp, hD, hB, hT, q⟩ := h
    have lx : xs.length = ts.length := by rw [hD.length, List.length_map]
    refine ⟨_, (pss_cons (ps_if (pt_not (pt_val (pe_callB call_isi (by rfl) T.n_isinstance (by decide +kernel) (pa_cons (pv 1) (pa_cons (pe_bltn (v := .ty "list") (u := .type "list") rfl T.n_list (by decide +kernel) rfl) pa_nil)))))
      (pss_one (ps_raise rfl (takes_of rfl rfl rfl rfl) (pmk_sup (k := 0) T.xz_InvalidTies PySem.F.store_ValueError PySem.F.excBase_ValueError PySem.W.kxs_ValueError (al_ve _) T.xk_InvalidTies (raises_own T.xs_InvalidTies T.xt_InvalidTies) (hr.mono (by decide)) rfl T.xm_InvalidTies pe_non)))
      pss_nil)
    (pss_cons (ps_set (i := 2) sc_check_ties.nd rfl (Or.inl rfl) (pe_callTy0 Sx.cr_newI (by rfl) T.n_set (by decide +kernel)))
    (pss_one (ps_for (passes_of rfl) rfl (pi_enum (by rfl) T.n_enumerate (pa_cons (pv 1) pa_nil)) (pg_tup rfl (pgs_cons (pg_name (i := 3) sc_check_ties.nd rfl (Or.inl rfl)) (pgs_cons (pg_name (i := 4) sc_check_ties.nd rfl (Or.inl rfl)) pgs_nil)))
      (pss_cons (ps_if (PW.pt (pw_or (pt_not (pt_val (pe_callB call_isi (by rfl) T.n_isinstance (by decide +kernel) (pa_cons (pv 4) (pa_cons (pe_bltn (v := .ty "list") (u := .type "list") rfl T.n_list (by decide +kernel) rfl) pa_nil))))) (pw_or (pt_cmpR op_ne (pe_callB cr_len (by rfl) T.n_len (by decide +kernel) (pa_cons (pv 4) pa_nil)) pe_int (nomark _)) (pw_or1 (pt_not (pt_val (pe_allL (P := T.p_check_ties) hr rfl T.n_all T.TB_check_ties (hcd.symm.trans T.k_check_ties) (gs_of rfl rfl (by decide) rfl rfl (by decide)) (pv 4) (el_within T (hr.mono (by decide)) rfl rfl rfl rfl rfl (i := 0) rfl rfl (fun _ => rfl)) (fun _ => rfl))))))))
        (pss_one (ps_raise rfl (takes_of rfl rfl rfl rfl) (pmk_sup (k := 0) T.xz_InvalidTies PySem.F.store_ValueError PySem.F.excBase_ValueError PySem.W.kxs_ValueError (al_ve _) T.xk_InvalidTies (raises_own T.xs_InvalidTies T.xt_InvalidTies) (hr.mono (by decide)) rfl T.xm_InvalidTies (pv 3))))
        pss_nil)
      (pss_cons (ps_if (PW.pt (pw_or (pt_cmpR op_eq (pe_ix ix_list (pv 4) pe_int (fun _ _ => rfl)) (pe_ix ix_list (pv 4) pe_int (fun _ _ => rfl)) (nomark _)) (pw_or1 (pt_cmpR (Sx.op_inI hr.u64) (pe_tup (pa_cons (pe_callB (cr_min rfl) (by rfl) T.n_min (by decide +kernel) (pa_cons (pv 4) pa_nil)) (pa_cons (pe_callB (cr_max rfl) (by rfl) T.n_max (by decide +kernel) (pa_cons (pv 4) pa_nil)) pa_nil))) (pv 2) (by rfl)))))
        (pss_one (ps_raise rfl (takes_of rfl rfl rfl rfl) (pmk_sup (k := 0) T.xz_InvalidTies PySem.F.store_ValueError PySem.F.excBase_ValueError PySem.W.kxs_ValueError (al_ve _) T.xk_InvalidTies (raises_own T.xs_InvalidTies T.xt_InvalidTies) (hr.mono (by decide)) rfl T.xm_InvalidTies (pv 3))))
        pss_nil)
      (pss_one (ps_expr (Sx.pe_addI hr.u64 (pv 2) (pa_cons (pe_tup (pa_cons (pe_callB (cr_min rfl) (by rfl) T.n_min (by decide +kernel) (pa_cons (pv 4) pa_nil)) (pa_cons (pe_callB (cr_max rfl) (by rfl) T.n_max (by decide +kernel) (pa_cons (pv 4) pa_nil)) pa_nil))) pa_nil)))))))))), ?_⟩
    rw [show start ["seats", "ties", "seen", "index", "tie"] [.int n, .ref p] = [some (.int n), some (.ref p), none, none, none] from rfl]
    walk_at "go"
    refine g_isi (T' := "list") (.base (.lst hp)) (by decide +kernel : kitB "list" "list" = some true) ?_
    walk_at "go"
    refine ⟨rfl, fun S hSn => ?_⟩
    walk_at "go"
    have hS0 : H S = none := hSn
    refine g_it (walk_enum (xs := xs ++ bad :: rest)) (fun i σ' H' => ∃ x3 x4 L, σ' = [some (.int n), some (.ref p), some (.ref S), x3, x4] ∧ Kp [] H H' ∧ H' S = some (Sx.SetI P w S L) ∧ Sx.Tups K H' L ∧ L.length ≤ i ∧ (∀ e ∈ L, ∃ t ∈ ts.take i, e.2 = tkey t) ∧ i ≤ ts.length)
      ⟨_, _, [], rfl, (Kp.refl _ _).put hS0, upd_same, fun _ z => (nomatch z), Nat.le_refl _, fun _ z => (nomatch z), Nat.zero_le _⟩ (fun i σ' H' _ h => ?_) ?_ ?_
    · obtain ⟨_, _, _, _, hK, _⟩ := h
      exact SqL.of (hK.lst nin0 hp)
    · rintro i x σ' H' H'' hi ⟨x3, x4, L, rfl, hK, hSet, hTu, hLn, hLm, hle⟩ ⟨Tp, xi, y, rfl, hTp, rfl, hx1, hx2⟩
      cases hx1
      have hp' := hK.lst nin0 hp
      have kT : Kp [] H (upd H' Tp (.tup [.int (i : Nat), y])) := hK.put (hK.free hTp)
      rcases Nat.lt_or_ge i ts.length with il | il
      rotate_left
      · obtain rfl : i = ts.length := by omega
        have hb : y = bad := by
          have z : (xs ++ bad :: rest)[ts.length]? = some y := hx2
          rw [← lx, List.getElem?_append_right (Nat.le_refl _), Nat.sub_self] at z
          exact (Option.some.inj z).symm
        subst hb
        walk_at "go"
        cases hB with
        | notl t k =>
          refine g_isi (t _ kT) k ?_
          walk_at "go"
          exact fun d hd => q _ d kT hd
        | len hz l =>
          have hz2 := kT.lst nin0 hz
          refine g_isi (T' := "list") (.base (.lst hz2)) (by decide +kernel : kitB "list" "list" = some true) ?_
          walk_at "go"
          refine g_kNY (by simpa using fun z => l (by omega)) ?_
          walk_at "go"
          exact fun d hd => q _ d kT hd
        | @out q1 a b oa ob hz wa wb hf =>
          have hz2 := kT.lst nin0 hz
          refine g_isi (T' := "list") (.base (.lst hz2)) (by decide +kernel : kitB "list" "list" = some true) ?_
          walk_at "go"
          refine g_kNX rfl ?_
          walk_at "go"
          have pb : (if b = a then inI oa n else inI ob n) = inI ob n := by
            by_cases z : b = a
            · subst z
              rw [if_pos rfl, Fw.one wa wb]
            · rw [if_neg z]
          refine ⟨q1, [a, b], fun v => if v = a then inI oa n else inI ob n, rfl, SqL.of hz2, fun w' hw' => ?_, kT.tabs hT T.p_check_ties List.mem_cons_self, fun H2 hT2 => ?_⟩
          · rcases List.mem_cons.mp hw' with rfl | hw'
            · exact ⟨n, oa, rfl, wa, fun y e => by
                show y = Value.bool (if w' = w' then inI oa n else inI ob n)
                rw [if_pos rfl]; exact e⟩
            · obtain rfl := List.mem_singleton.mp hw'
              exact ⟨n, ob, rfl, wb, fun y e => by
                show y = Value.bool (if w' = a then inI oa n else inI ob n)
                rw [pb]; exact e⟩
          have k2 := kT.trans (Kp.tabbed T.lg_check_ties (kT.tabs hT T.p_check_ties List.mem_cons_self) hT2)
          walk_at "go"
          refine g_kY (by simp only [List.all_cons, List.all_nil, Bool.and_true, if_true, pb, hf]; rfl) ?_
          walk_at "go"
          exact fun d hd => q _ d k2 hd
        | @same q1 j hz h1 h2 =>
          have hz2 := kT.lst nin0 hz
          refine g_isi (T' := "list") (.base (.lst hz2)) (by decide +kernel : kitB "list" "list" = some true) ?_
          walk_at "go"
          refine g_kNX rfl ?_
          walk_at "go"
          refine ⟨q1, [.int j, .int j], fun _ => true, rfl, SqL.of hz2, fun w' hw' => ?_, kT.tabs hT T.p_check_ties List.mem_cons_self, fun H2 hT2 => ?_⟩
          · obtain rfl : w' = .int j := by simpa using hw'
            exact ⟨n, some j, rfl, .int j, fun y e => by
              have : inI (some j) n = true := by simp [inI, h1, h2]
              rw [this] at e
              exact e⟩
          have k3 := Kp.tabbed T.lg_check_ties (kT.tabs hT T.p_check_ties List.mem_cons_self) hT2
          have hz3 := k3.lst nin0 hz2
          have k2 := kT.trans k3
          walk_at "go"
          refine g_kX rfl ?_
          walk_at "go"
          refine g_kDY rfl ?_
          walk_at "go"
          exact fun d hd => q _ d k2 hd
      have hx2 : xs[i]? = some y := by
        have z : (xs ++ bad :: rest)[i]? = some y := hx2
        rw [List.getElem?_append_left (by omega)] at z
        exact z
      obtain ⟨d, hd, hy⟩ := hD.getV hx2
      rw [List.getElem?_map] at hd
      obtain ⟨t, ht, rfl⟩ := Option.map_eq_some_iff.mp hd
      have hy := hy.keep (hK.put (hK.free hTp) : Kp [] H (upd H' Tp (.tup [.int (i : Nat), y]))) (fun _ _ => nin0) (fun _ h => h)
      obtain ⟨q1, rfl, -, hq⟩ := Da.ints_inv (ns := [t.1, t.2]) hy
      have tin := List.mem_of_getElem? ht
      obtain ⟨m1, m2, ne⟩ := hS.mem t tin
      have b1 := up_mem.mp m1
      have b2 := up_mem.mp m2
      walk_at "go"
      refine g_isi (T' := "list") (.base (.lst hq)) (by decide +kernel : kitB "list" "list" = some true) ?_
      walk_at "go"
      refine g_kNX rfl ?_
      walk_at "go"
      have k1 : Kp [] H (upd H' Tp (.tup [.int (i : Nat), .ref q1])) := hK.put (hK.free hTp)
      have ST : S ≠ Tp := ne_of_none hSet hTp
      refine ⟨q1, [.int t.1, .int t.2], fun _ => true, rfl, SqL.of hq, fun w' hw' => ?_, k1.tabs hT T.p_check_ties List.mem_cons_self, fun H2 hT2 => ?_⟩
      · have one : ∀ j : Int, 1 ≤ j → j ≤ n → CnW 0 [some (.int n), some (.ref p), some (.ref S), some (.int (i : Nat)), some (.ref q1)] (upd H' Tp (.tup [.int (i : Nat), .ref q1])) (.int j) (· = .bool true) := fun j j1 j2 =>
          ⟨n, some j, rfl, .int j, fun y e => by
            have : inI (some j) n = true := by simp [inI, j1, j2]
            rw [this] at e
            exact e⟩
        rcases List.mem_cons.mp hw' with rfl | hw'
        · exact one _ b1.1 b1.2
        · obtain rfl := List.mem_singleton.mp hw'
          exact one _ b2.1 b2.2
      have k2 : Kp [] (upd H' Tp (.tup [.int (i : Nat), .ref q1])) H2 := Kp.tabbed T.lg_check_ties (k1.tabs hT T.p_check_ties List.mem_cons_self) hT2
      have hS2 : H2 S = some (Sx.SetI P w S L) := k2.look nin0 (by rw [upd_ne ST]; exact hSet) (ntb rfl)
      have hq2 : H2 q1 = some (.lst [.int t.1, .int t.2]) := k2.lst nin0 hq
      have kk : Kp [] H' H2 := ((Kp.refl _ _).put hTp).trans k2
      have hTu2 : Sx.Tups K H2 L := Sx.Tups.kp hTu kk
      walk_at "go"
      refine g_kX rfl ?_
      walk_at "go"
      refine g_kDX ne ?_
      walk_at "go"
      refine ⟨q1, [t.1, t.2], rfl, SqL.of hq2, Nat.succ_pos _, fun a ha1 ha2 => ?_⟩
      obtain rfl : a = min t.1 t.2 := by
        have := ha2 t.1 (by simp)
        have := ha2 t.2 (by simp)
        simp at ha1
        omega
      walk_at "go"
      refine ⟨q1, [t.1, t.2], rfl, SqL.of hq2, Nat.succ_pos _, fun b hb1 hb2 => ?_⟩
      obtain rfl : b = max t.1 t.2 := by
        have := hb2 t.1 (by simp)
        have := hb2 t.2 (by simp)
        simp at hb1
        omega
      walk_at "go"
      rename_i W hW
      have nm : tkey t ∉ L.map (·.2) := fun z => by
        obtain ⟨e, he, ee⟩ := List.mem_map.mp z
        obtain ⟨t0, ht0, et⟩ := hLm e he
        obtain ⟨j, hj, rfl⟩ := List.getElem_of_mem ht0
        rw [List.length_take] at hj
        rw [List.getElem_take] at et
        have il := (List.getElem?_eq_some_iff.mp ht)
        obtain ⟨il, et2⟩ := il
        have ap := List.pairwise_iff_getElem.mp hS.ap j i (by omega) il (by omega)
        rw [et2] at ap
        exact tkey_apart ap (et.symm.trans ee)
      have kW : Kp [] H' (upd H2 W (.tup [.int (min t.1 t.2), .int (max t.1 t.2)])) := kk.put (kk.free hW)
      refine ⟨W, S, tkey t, L, rfl, rfl, SqT.of upd_same, by walk_at "look", hTu.kp kW, ?_⟩
      walk_at "go"
      refine g_kDX nm ?_
      walk_at "go"
      refine ⟨q1, [t.1, t.2], rfl, SqL.of (by walk_at "look"), Nat.succ_pos _, fun a ha1 ha2 => ?_⟩
      obtain rfl : a = min t.1 t.2 := by
        have := ha2 t.1 (by simp)
        have := ha2 t.2 (by simp)
        simp at ha1
        omega
      walk_at "go"
      refine ⟨q1, [t.1, t.2], rfl, SqL.of (by walk_at "look"), Nat.succ_pos _, fun b hb1 hb2 => ?_⟩
      obtain rfl : b = max t.1 t.2 := by
        have := hb2 t.1 (by simp)
        have := hb2 t.2 (by simp)
        simp at hb1
        omega
      walk_at "go"
      rename_i W2 hW2
      have kW2 := kW.put (o := .tup [.int (min t.1 t.2), .int (max t.1 t.2)]) (kW.free hW2)
      have S2 : (upd (upd H2 W (.tup [.int (min t.1 t.2), .int (max t.1 t.2)])) W2 (.tup [.int (min t.1 t.2), .int (max t.1 t.2)])) S = some (Sx.SetI P w S L) := by walk_at "look"
      refine ⟨W2, S, tkey t, L, rfl, rfl, SqT.of upd_same, S2, hTu.kp kW2, by omega, fun L' _ hL' => ?_⟩
      have pm := hL' nm
      walk_at "go"
      have SW2 : W2 ≠ S := fun z => by rw [z, upd_ne (ne_of_none hS2 hW)] at hW2; rw [hS2] at hW2; cases hW2
      refine ⟨_, _, L', rfl, (hK.trans kW2).put hS0 (NC.setI (by walk_at "look")), upd_same, fun e he => ?_, by rw [pm.length_eq, List.length_cons]; omega, fun e he => ?_, by omega⟩
      · have up1 : ∀ b, b ≠ S → ∀ o, (upd (upd H2 W (.tup [.int (min t.1 t.2), .int (max t.1 t.2)])) W2 (.tup [.int (min t.1 t.2), .int (max t.1 t.2)])) b = some o → (upd (upd (upd H2 W (.tup [.int (min t.1 t.2), .int (max t.1 t.2)])) W2 (.tup [.int (min t.1 t.2), .int (max t.1 t.2)])) S (Sx.SetI P w S L')) b = some o := fun b hb o e => by rw [upd_ne hb]; exact e
        rcases List.mem_cons.mp (pm.mem_iff.mp he) with rfl | he
        · exact SqT.of (up1 W2 SW2 _ upd_same)
        · rcases hTu.kp kW2 e he with (z | ⟨o, z⟩) | z
          · exact .inl (.inl (up1 _ (fun c => by rw [c, S2] at z; cases z) _ z))
          · exact .inl (.inr ⟨o, up1 _ (fun c => by rw [c, S2] at z; cases z) _ z⟩)
          · exact .inr z
      · rw [List.take_add_one, ht]
        rcases List.mem_cons.mp (pm.mem_iff.mp he) with rfl | he
        · exact ⟨t, List.mem_append_right _ (List.mem_singleton.mpr rfl), rfl⟩
        · obtain ⟨t0, h0, e0⟩ := hLm e he
          exact ⟨t0, List.mem_append_left _ h0, e0⟩
    · rintro σ' H' ⟨_, _, _, rfl, hK, _, _, _, _, hle⟩
      rw [List.length_append, List.length_cons, lx] at hle
      omega
end
end Ap
namespace Ap
open PySem L2 PySem.Spec PyProof.Rows
/-- no list at all -/
def spTiesN (K : PySem.W.Frag) (N : Addr) : Sp := fun vs H _ E => ∃ (s v : V) (T : String), vs = [s, v] ∧ TyX K H v (.type T) ∧ kitB T "list" = some false ∧ ∀ d, H d = none → E (.ref N) (some d) (upd H d (.xd [("index", .non)]))
section
variable {P : Program} {w : World} {K : PySem.W.Frag} {mg : Str → Option Value} {base : Heap}
theorem ok_check_tiesN (T : Txt P K mg base) : FnOk P w K mg base (L2.CX P w) 4 T.a_check_ties T.fd_check_ties ["seats", "ties"] (spTiesN K T.X_InvalidTies) := by
  refine fnK_of T.F_check_ties sc_check_ties (fun vs H Q E h => ?_) (fun cdv A outer s H vs Q E hcd hr h => ?_)
  · obtain ⟨n, v, t, rfl, _⟩ := h
    rfl
  · obtain ⟨n, v, t, rfl, ty, k, q⟩ := h
    refine ⟨_, (pss_cons (ps_if (pt_not (pt_val (pe_callB call_isi (by rfl) T.n_isinstance (by decide +kernel) (pa_cons (pv 1) (pa_cons (pe_bltn (v := .ty "list") (u := .type "list") rfl T.n_list (by decide +kernel) rfl) pa_nil)))))
      (pss_one (ps_raise rfl (takes_of rfl rfl rfl rfl) (pmk_sup (k := 0) T.xz_InvalidTies PySem.F.store_ValueError PySem.F.excBase_ValueError PySem.W.kxs_ValueError (al_ve _) T.xk_InvalidTies (raises_own T.xs_InvalidTies T.xt_InvalidTies) (hr.mono (by decide)) rfl T.xm_InvalidTies pe_non)))
      pss_nil)
    (pss_cons (ps_set (i := 2) sc_check_ties.nd rfl (Or.inl rfl) (pe_callTy0 Sx.cr_newI (by rfl) T.n_set (by decide +kernel)))
    (pss_one (ps_for (passes_of rfl) rfl (pi_enum (by rfl) T.n_enumerate (pa_cons (pv 1) pa_nil)) (pg_tup rfl (pgs_cons (pg_name (i := 3) sc_check_ties.nd rfl (Or.inl rfl)) (pgs_cons (pg_name (i := 4) sc_check_ties.nd rfl (Or.inl rfl)) pgs_nil)))
      (pss_cons (ps_if (PW.pt (pw_or (pt_not (pt_val (pe_callB call_isi (by rfl) T.n_isinstance (by decide +kernel) (pa_cons (pv 4) (pa_cons (pe_bltn (v := .ty "list") (u := .type "list") rfl T.n_list (by decide +kernel) rfl) pa_nil))))) (pw_or (pt_cmpR op_ne (pe_callB cr_len (by rfl) T.n_len (by decide +kernel) (pa_cons (pv 4) pa_nil)) pe_int (nomark _)) (pw_or1 (pt_not (pt_val (pe_allL (P := T.p_check_ties) hr rfl T.n_all T.TB_check_ties (hcd.symm.trans T.k_check_ties) (gs_of rfl rfl (by decide) rfl rfl (by decide)) (pv 4) (el_within T (hr.mono (by decide)) rfl rfl rfl rfl rfl (i := 0) rfl rfl (fun _ => rfl)) (fun _ => rfl))))))))
        (pss_one (ps_raise rfl (takes_of rfl rfl rfl rfl) (pmk_sup (k := 0) T.xz_InvalidTies PySem.F.store_ValueError PySem.F.excBase_ValueError PySem.W.kxs_ValueError (al_ve _) T.xk_InvalidTies (raises_own T.xs_InvalidTies T.xt_InvalidTies) (hr.mono (by decide)) rfl T.xm_InvalidTies (pv 3))))
        pss_nil)
      (pss_cons (ps_if (PW.pt (pw_or (pt_cmpR op_eq (pe_ix ix_list (pv 4) pe_int (fun _ _ => rfl)) (pe_ix ix_list (pv 4) pe_int (fun _ _ => rfl)) (nomark _)) (pw_or1 (pt_cmpR (Sx.op_inI hr.u64) (pe_tup (pa_cons (pe_callB (cr_min rfl) (by rfl) T.n_min (by decide +kernel) (pa_cons (pv 4) pa_nil)) (pa_cons (pe_callB (cr_max rfl) (by rfl) T.n_max (by decide +kernel) (pa_cons (pv 4) pa_nil)) pa_nil))) (pv 2) (by rfl)))))
        (pss_one (ps_raise rfl (takes_of rfl rfl rfl rfl) (pmk_sup (k := 0) T.xz_InvalidTies PySem.F.store_ValueError PySem.F.excBase_ValueError PySem.W.kxs_ValueError (al_ve _) T.xk_InvalidTies (raises_own T.xs_InvalidTies T.xt_InvalidTies) (hr.mono (by decide)) rfl T.xm_InvalidTies (pv 3))))
        pss_nil)
      (pss_one (ps_expr (Sx.pe_addI hr.u64 (pv 2) (pa_cons (pe_tup (pa_cons (pe_callB (cr_min rfl) (by rfl) T.n_min (by decide +kernel) (pa_cons (pv 4) pa_nil)) (pa_cons (pe_callB (cr_max rfl) (by rfl) T.n_max (by decide +kernel) (pa_cons (pv 4) pa_nil)) pa_nil))) pa_nil)))))))))), ?_⟩
    rw [show start ["seats", "ties", "seen", "index", "tie"] [n, v] = [some (n), some (v), none, none, none] from rfl]
    walk_at "go"
    refine g_isi ty k ?_
    walk_at "go"
    exact q
end
end Ap


namespace Ap
open PySem L2 PySem.Spec PyProof.Rows
/-- no number of seats: the error bears it -/
def badSeats (o : Option Int) : Prop := ∀ i, o = some i → i < 3 ∨ 40 < i
def spSeatsX (K : PySem.W.Frag) (N : Addr) : Sp := fun vs H _ E => ∃ v o, vs = [v] ∧ Wh K H v o ∧ badSeats o ∧ ∀ d, H d = none → E (.ref N) (some d) (upd H d (.xd [("number", v)]))
section
variable {P : Program} {w : World} {K : PySem.W.Frag} {mg : Str → Option Value} {base : Heap}
theorem ok_check_seatsX (T : Txt P K mg base) : FnOk P w K mg base (L2.CX P w) 3 T.a_check_seats T.fd_check_seats ["seats"] (spSeatsX K T.X_InvalidNumber) := by
  refine fnK_of T.F_check_seats sc_check_seats (fun vs H Q E h => ?_) (fun cdv A outer s H vs Q E hcd hr h => ?_)
  · obtain ⟨v, o, rfl, _⟩ := h
    rfl
  · obtain ⟨v, o, rfl, ho, bad, q⟩ := h
    refine ⟨_, (pss_one (ps_if (PW.pt (pw_or (pt_not (pt_val (pe_call (ok_is_within T) (hr.mono (by decide)) rfl T.m_is_within T.F_is_within.kp T.b_is_within .nil pass0 (pa_cons (pv 0) (pa_cons (pe_glob (v := .int 40) rfl T.v_MOST_SEATS ⟨_, rfl⟩) pa_nil))))) (pw_or1 (pt_cmpR op_lt (pv 0) (pe_glob (v := .int 3) rfl T.v_FEWEST_SEATS ⟨_, rfl⟩) (nomark _)))))
      (pss_one (ps_raise rfl (takes_of rfl rfl rfl rfl) (pmk_sup (k := 0) T.xz_InvalidNumber PySem.F.store_ValueError PySem.F.excBase_ValueError PySem.W.kxs_ValueError (al_ve _) T.xk_InvalidNumber (raises_own T.xs_InvalidNumber T.xt_InvalidNumber) (hr.mono (by decide)) rfl T.xm_InvalidNumber (pv 0))))
      pss_nil)), ?_⟩
    rw [show start ["seats"] [v] = [some (v)] from rfl]
    walk_at "go"
    refine ⟨v, o, 40, rfl, ho, ?_⟩
    walk_at "go"
    refine g_kB (fun e => ?_) (fun e => ?_)
    · walk_at "go"
      exact q
    · walk_at "go"
      cases ho with
      | bl b => cases e
      | oth t k => cases e
      | int i =>
        have e : ¬ (1 ≤ i → 40 < i) := by simpa [inI] using e
        have b := bad i rfl
        walk_at "go"
        refine g_kDY (by omega) ?_
        walk_at "go"
        exact q
end
end Ap


namespace Ap
open PySem L2 PySem.Spec PyProof.Rows
section
variable {P : Program} {w : World} {K : PySem.W.Frag} {mg : Str → Option Value} {base : Heap}
theorem ok_check_seatsA (T : Txt P K mg base) : FnOk P w K mg base (L2.CX P w) 3 T.a_check_seats T.fd_check_seats ["seats"] (orS spSeats (spSeatsX K T.X_InvalidNumber)) := FnOk.or (FnOk.may (ok_check_seats T)) (ok_check_seatsX T)
theorem ok_check_tiesA (T : Txt P K mg base) : FnOk P w K mg base (L2.CX P w) 4 T.a_check_ties T.fd_check_ties ["seats", "ties"] (orS (spTies T.tbs) (orS (spTiesX T.tbs K T.X_InvalidTies) (spTiesN K T.X_InvalidTies))) := FnOk.or (FnOk.may (ok_check_ties T)) (FnOk.or (ok_check_tiesX T) (ok_check_tiesN T))
end
/-- not a net: what is raised -/
def spNetX (tb : List Addr) (K : PySem.W.Frag) (N I : Addr) : Sp := fun vs H _ E =>
  (∃ v o t, vs = [v, t] ∧ Wh K H v o ∧ badSeats o ∧ ∀ d, H d = none → E (.ref N) (some d) (upd H d (.xd [("number", v)]))) ∨
  (∃ (n : Nat) (v : V) (T : String), vs = [.int n, v] ∧ 3 ≤ n ∧ n ≤ 40 ∧ TyX K H v (.type T) ∧ kitB T "list" = some false ∧ ∀ d, H d = none → E (.ref I) (some d) (upd H d (.xd [("index", .non)]))) ∨
  ∃ (n : Nat) (ts : List Tie) (p : Addr) (xs rest : List V) (bad : V), vs = [.int n, .ref p] ∧ 3 ≤ n ∧ n ≤ 40 ∧ NetS (up n) ts ∧ H p = some (.lst (xs ++ bad :: rest)) ∧ DaAll (fun _ => True) H xs (ts.map tieD) ∧ BadTie K H n bad ∧ Tabs tb H ∧
    ∀ H' d, Kp [] H H' → H' d = none → E (.ref I) (some d) (upd H' d (.xd [("index", .int ts.length)]))
section
variable {P : Program} {w : World} {K : PySem.W.Frag} {mg : Str → Option Value} {base : Heap}
theorem ok_check_netX (T : Txt P K mg base) : FnOk P w K mg base (L2.CX P w) 5 T.a_check_net T.fd_check_net ["seats", "ties"] (spNetX T.tbs K T.X_InvalidNumber T.X_InvalidTies) := by
  refine fnK_of T.F_check_net sc_check_net (fun vs H Q E h => ?_) (fun cdv A outer s H vs Q E hcd hr h => ?_)
  · rcases h with ⟨_, _, _, rfl, _⟩ | ⟨_, _, _, rfl, _⟩ | ⟨_, _, _, _, _, _, rfl, _⟩ <;> rfl
  · rcases h with ⟨v, o, t, rfl, ho, bad, q⟩ | ⟨n, v, t, rfl, n3, n40, ty, k, q⟩ | ⟨n, ts, p, xs, rest, bad, rfl, n3, n40, hS, hp, hD, hB, hT, q⟩
    · refine ⟨_, (pss_cons (ps_expr (pe_callS (ok_check_seatsA T) (hr.mono (by decide)) rfl T.m_check_seats T.F_check_seats.kp T.b_check_seats (fun σ => passAt (takes_of rfl rfl rfl rfl) σ) (pa_cons (pv 0) pa_nil)))
    (pss_one (ps_expr (pe_callS (ok_check_tiesA T) (hr.mono (by decide)) rfl T.m_check_ties T.F_check_ties.kp T.b_check_ties (fun σ => passAt (takes_of rfl rfl rfl rfl) σ) (pa_cons (pv 0) (pa_cons (pv 1) pa_nil)))))), ?_⟩
      rw [show start ["seats", "ties"] [v, t] = [some (v), some (t)] from rfl]
      walk_at "go"
      exact .inr ⟨v, o, rfl, ho, bad, q⟩
    · refine ⟨_, (pss_cons (ps_expr (pe_callS (ok_check_seatsA T) (hr.mono (by decide)) rfl T.m_check_seats T.F_check_seats.kp T.b_check_seats (fun σ => passAt (takes_of rfl rfl rfl rfl) σ) (pa_cons (pv 0) pa_nil)))
    (pss_one (ps_expr (pe_callS (ok_check_tiesA T) (hr.mono (by decide)) rfl T.m_check_ties T.F_check_ties.kp T.b_check_ties (fun σ => passAt (takes_of rfl rfl rfl rfl) σ) (pa_cons (pv 0) (pa_cons (pv 1) pa_nil)))))), ?_⟩
      rw [show start ["seats", "ties"] [.int n, v] = [some (.int n), some (v)] from rfl]
      walk_at "go"
      refine .inl ⟨n, rfl, n3, n40, ?_⟩
      walk_at "go"
      exact .inr (.inr ⟨_, v, t, rfl, ty, k, q⟩)
    · refine ⟨_, (pss_cons (ps_expr (pe_callS (ok_check_seatsA T) (hr.mono (by decide)) rfl T.m_check_seats T.F_check_seats.kp T.b_check_seats (fun σ => passAt (takes_of rfl rfl rfl rfl) σ) (pa_cons (pv 0) pa_nil)))
    (pss_one (ps_expr (pe_callS (ok_check_tiesA T) (hr.mono (by decide)) rfl T.m_check_ties T.F_check_ties.kp T.b_check_ties (fun σ => passAt (takes_of rfl rfl rfl rfl) σ) (pa_cons (pv 0) (pa_cons (pv 1) pa_nil)))))), ?_⟩
      rw [show start ["seats", "ties"] [.int n, .ref p] = [some (.int n), some (.ref p)] from rfl]
      walk_at "go"
      refine .inl ⟨n, rfl, n3, n40, ?_⟩
      walk_at "go"
      exact .inr (.inl ⟨n, ts, p, xs, rest, bad, rfl, hS, hS.few n40, hp, hD, hB, hT, q⟩)
theorem ok_check_netA (T : Txt P K mg base) : FnOk P w K mg base (L2.CX P w) 5 T.a_check_net T.fd_check_net ["seats", "ties"] (orS (spNet2 T.tbs) (spNetX T.tbs K T.X_InvalidNumber T.X_InvalidTies)) := FnOk.or (FnOk.may (ok_check_net T)) (ok_check_netX T)
end
end Ap


namespace Ap
open PySem L2 PySem.Spec PyProof.Rows
/-- ns is right so far, bad is not: no number up to n, or one that stands ahead -/
def spWrongX (K : PySem.W.Frag) : Sp := fun vs H Q _ => ∃ (p : Addr) (ns : List Int) (n : Int) (bad : V) (rest : List V) (o : Option Int), vs = [.ref p, .int n] ∧ H p = some (.lst (ns.map V.int ++ bad :: rest)) ∧ ns.length ≤ 1000 ∧ ns.Nodup ∧ (∀ x ∈ ns, 1 ≤ x ∧ x ≤ n) ∧
  (∀ H', Kp [] H H' → Wh K H' bad o) ∧ (inI o n = false ∨ ∃ z, z ∈ ns ∧ o = some z) ∧ ∀ H', Kp [] H H' → Q (.int ns.length) H'
section
variable {P : Program} {w : World} {K : PySem.W.Frag} {mg : Str → Option Value} {base : Heap}
theorem ok_wrong_placeX (T : Txt P K mg base) : FnOk P w K mg base CX0 3 T.a_wrong_place T.fd_wrong_place ["things", "count"] (spWrongX K) := by
  refine fnK_of0 T.F_wrong_place sc_wrong_place (fun vs H Q E h => ?_) (fun cdv A outer s H vs Q E hcd hr h => ?_)
  · obtain ⟨p, ns, n, bad, rest, o, rfl, _⟩ := h
    rfl
  · obtain ⟨p, ns, n, bad, rest, o, rfl, hp, few, nd, hin, hw, hbad, q⟩ := h
    refine ⟨_, (pss_cons (ps_set (i := 2) sc_wrong_place.nd rfl (Or.inl rfl) (pe_callTy0 cr_set0 (by rfl) T.n_set (by decide +kernel)))
    (pss_cons (ps_for PassesOwn.never rfl (pi_enum (by rfl) T.n_enumerate (pa_cons (pv 0) pa_nil)) (pg_tup rfl (pgs_cons (pg_name (i := 3) sc_wrong_place.nd rfl (Or.inl rfl)) (pgs_cons (pg_name (i := 4) sc_wrong_place.nd rfl (Or.inl rfl)) pgs_nil)))
      (pss_cons (ps_if (PW.pt (pw_or (pt_not (pt_val (pe_call (ok_is_within T) (hr.mono (by decide)) rfl T.m_is_within T.F_is_within.kp T.b_is_within .nil pass0 (pa_cons (pv 4) (pa_cons (pv 1) pa_nil))))) (pw_or1 (pt_cmpR or_sin (pv 4) (pv 2) (by rfl)))))
        (pss_one (ps_ret (pv 3)))
        pss_nil)
      (pss_one (ps_expr (pe_sadd (pv 2) (pa_cons (pv 4) pa_nil))))))
    (pss_one (ps_ret pe_non)))), ?_⟩
    rw [show start ["things", "count", "seen", "index", "thing"] [.ref p, .int n] = [some (.ref p), some (.int n), none, none, none] from rfl]
    walk_at "go"
    refine ⟨rfl, fun S hS => ?_⟩
    walk_at "go"
    refine g_it (walk_enum (xs := ns.map V.int ++ bad :: rest)) (fun i σ' H' => ∃ x3 x4 k, ∃ f : Int → Bool, σ' = [some (.ref p), some (.int n), some (.ref S), x3, x4] ∧ Kp [] H H' ∧ H' S = some (SetO w S f k) ∧ k ≤ i ∧ (∀ j, f j = decide (j ∈ ns.take i)) ∧ i ≤ ns.length)
      ⟨_, _, 0, _, rfl, (Kp.refl _ _).put hS, upd_same, Nat.le_refl _, fun j => by simp, Nat.zero_le _⟩ (fun i σ' H' _ h => ?_) ?_ ?_
    · obtain ⟨_, _, _, _, _, hK, _⟩ := h
      exact SqL.of (hK.lst nin0 hp)
    · rintro i x σ' H' H'' hi ⟨x3, x4, k, f, rfl, hK, hSet, hk, hf, hle⟩ ⟨Tp, xi, y, rfl, hTp, rfl, hx1, hx2⟩
      cases hx1
      have ST : S ≠ Tp := ne_of_none hSet hTp
      have kT : Kp [] H (upd H' Tp (.tup [.int (i : Nat), y])) := hK.put (hK.free hTp)
      rcases Nat.lt_or_ge i ns.length with il | il
      rotate_left
      · obtain rfl : i = ns.length := by omega
        have hb : y = bad := by
          have z : (ns.map V.int ++ bad :: rest)[ns.length]? = some y := hx2
          rw [List.getElem?_append_right (by rw [List.length_map]; exact Nat.le_refl _), List.length_map, Nat.sub_self] at z
          exact (Option.some.inj z).symm
        subst hb
        walk_at "go"
        refine ⟨y, o, n, rfl, hw _ kT, ?_⟩
        walk_at "go"
        refine g_kB (fun e => ?_) (fun e => ?_)
        · walk_at "go"
          exact q _ kT
        · have e : inI o n = true := by simpa using e
          rcases hbad with z | ⟨z, hz, ez⟩
          · rw [z] at e; cases e
          · subst ez
            obtain rfl : y = .int z := by
              have := hw _ kT
              cases this
              rfl
            walk_at "go"
            refine ⟨z, S, f, k, rfl, rfl, by walk_at "look", ?_⟩
            rw [hf, decide_eq_true (by rw [List.take_of_length_le (Nat.le_refl _)]; exact hz)]
            walk_at "go"
            exact q _ kT
      have hx2 : (ns.map V.int)[i]? = some y := by
        have z : (ns.map V.int ++ bad :: rest)[i]? = some y := hx2
        rw [List.getElem?_append_left (by rw [List.length_map]; exact il)] at z
        exact z
      rw [List.getElem?_map] at hx2
      obtain ⟨z, hz, rfl⟩ := Option.map_eq_some_iff.mp hx2
      have b := hin z (List.mem_of_getElem? hz)
      have fz : f z = false := by rw [hf, decide_eq_false (not_mem_take nd hz)]
      walk_at "go"
      refine ⟨.int z, some z, n, rfl, .int z, ?_⟩
      rw [show inI (some z) n = true by simp [inI, b.1, b.2]]
      walk_at "go"
      refine ⟨z, S, f, k, rfl, rfl, by walk_at "look", ?_⟩
      rw [fz]
      walk_at "go"
      refine g_kSad (S := f) (n := k) (by walk_at "look") ?_
      walk_at "go"
      refine g_sadd (S := f) (n := k) (by walk_at "look") (by omega) ?_
      walk_at "go"
      refine ⟨_, _, _, _, rfl, (hK.put (hK.free hTp)).put hS (NC.setO (by walk_at "look")), upd_same, ?_, fun j => ?_, by omega⟩
      · split <;> omega
      · rw [hf, take_succ' hz]
        simp [Bool.or_comm]
    · rintro σ' H' ⟨x3, x4, k, f, rfl, hK, hSet, hk, hf, hle⟩
      rw [List.length_append, List.length_map, List.length_cons] at hle
      omega
end
end Ap


namespace Ap
open PySem L2 PySem.Spec PyProof.Rows
def spStandingX (K : PySem.W.Frag) (N : Addr) : Sp := fun vs H _ E =>
  (∃ (n : Nat) (v : V) (T : String), vs = [.int n, v] ∧ TyX K H v (.type T) ∧ kitB T "list" = some false ∧ ∀ d, H d = none → E (.ref N) (some d) (upd H d (.xd [("index", .non)]))) ∨
  (∃ (n : Nat) (p : Addr) (zs : List V), vs = [.int n, .ref p] ∧ H p = some (.lst zs) ∧ zs.length ≠ n ∧ ∀ d, H d = none → E (.ref N) (some d) (upd H d (.xd [("index", .non)]))) ∨
  ∃ (n : Nat) (p : Addr) (ns : List Int) (rest : List V) (bad : V) (o : Option Int), vs = [.int n, .ref p] ∧ H p = some (.lst (ns.map V.int ++ bad :: rest)) ∧ (ns.map V.int ++ bad :: rest).length = n ∧ n ≤ 40 ∧ ns.Nodup ∧ (∀ x ∈ ns, 1 ≤ x ∧ x ≤ (n : Int)) ∧
    (∀ H', Kp [] H H' → Wh K H' bad o) ∧ (inI o n = false ∨ ∃ z, z ∈ ns ∧ o = some z) ∧ ∀ H' d, Kp [] H H' → H' d = none → E (.ref N) (some d) (upd H' d (.xd [("index", .int ns.length)]))
def spOrderX (K : PySem.W.Frag) (N : Addr) : Sp := fun vs H _ E =>
  (∃ (n : Nat) (v : V) (T : String), vs = [v, .int n] ∧ TyX K H v (.type T) ∧ kitB T "list" = some false ∧ ∀ d, H d = none → E (.ref N) (some d) (upd H d (.xd [("index", .non)]))) ∨
  (∃ (n : Nat) (p : Addr) (zs : List V), vs = [.ref p, .int n] ∧ H p = some (.lst zs) ∧ zs.length ≠ n ∧ ∀ d, H d = none → E (.ref N) (some d) (upd H d (.xd [("index", .non)]))) ∨
  ∃ (n : Nat) (p : Addr) (ns : List Int) (rest : List V) (bad : V) (o : Option Int), vs = [.ref p, .int n] ∧ H p = some (.lst (ns.map V.int ++ bad :: rest)) ∧ (ns.map V.int ++ bad :: rest).length = n ∧ n ≤ 40 ∧ ns.Nodup ∧ (∀ x ∈ ns, 1 ≤ x ∧ x ≤ (n : Int)) ∧
    (∀ H', Kp [] H H' → Wh K H' bad o) ∧ (inI o n = false ∨ ∃ z, z ∈ ns ∧ o = some z) ∧ ∀ H' d, Kp [] H H' → H' d = none → E (.ref N) (some d) (upd H' d (.xd [("index", .int ns.length)]))
section
variable {P : Program} {w : World} {K : PySem.W.Frag} {mg : Str → Option Value} {base : Heap}
theorem ok_wrong_placeA (T : Txt P K mg base) : FnOk P w K mg base CX0 3 T.a_wrong_place T.fd_wrong_place ["things", "count"] (orS spWrong (spWrongX K)) := FnOk.or (ok_wrong_place T) (ok_wrong_placeX T)
theorem ok_check_standingX (T : Txt P K mg base) : FnOk P w K mg base (L2.CX P w) 4 T.a_check_standing T.fd_check_standing ["seats", "standing"] (spStandingX K T.X_InvalidStanding) := by
  refine fnK_of T.F_check_standing sc_check_standing (fun vs H Q E h => ?_) (fun cdv A outer s H vs Q E hcd hr h => ?_)
  · rcases h with ⟨_, _, _, rfl, _⟩ | ⟨_, _, _, rfl, _⟩ | ⟨_, _, _, _, _, _, rfl, _⟩ <;> rfl
  · rcases h with ⟨n, v, t, rfl, ty, k, q⟩ | ⟨n, p, zs, rfl, hp, l, q⟩ | ⟨n, p, ns, rest, bad, o, rfl, hp, l, n40, nd, hin, hw, hb, q⟩
    · refine ⟨_, (pss_cons (ps_if (PW.pt (pw_or (pt_not (pt_val (pe_callB call_isi (by rfl) T.n_isinstance (by decide +kernel) (pa_cons (pv 1) (pa_cons (pe_bltn (v := .ty "list") (u := .type "list") rfl T.n_list (by decide +kernel) rfl) pa_nil))))) (pw_or1 (pt_cmpR op_ne (pe_callB cr_len (by rfl) T.n_len (by decide +kernel) (pa_cons (pv 1) pa_nil)) (pv 0) (nomark _)))))
      (pss_one (ps_raise rfl (takes_of rfl rfl rfl rfl) (pmk_sup (k := 0) T.xz_InvalidStanding PySem.F.store_ValueError PySem.F.excBase_ValueError PySem.W.kxs_ValueError (al_ve _) T.xk_InvalidStanding (raises_own T.xs_InvalidStanding T.xt_InvalidStanding) (hr.mono (by decide)) rfl T.xm_InvalidStanding pe_non)))
      pss_nil)
    (pss_cons (ps_set (i := 2) sc_check_standing.nd rfl (Or.inl rfl) (pe_call (ok_wrong_placeA T) (hr.mono (by decide)) rfl T.m_wrong_place T.F_wrong_place.kp T.b_wrong_place .nil pass0 (pa_cons (pv 1) (pa_cons (pv 0) pa_nil))))
    (pss_one (ps_if (pt_cmpR op_notN (pv 2) pe_non (nomark _))
      (pss_one (ps_raise rfl (takes_of rfl rfl rfl rfl) (pmk_sup (k := 0) T.xz_InvalidStanding PySem.F.store_ValueError PySem.F.excBase_ValueError PySem.W.kxs_ValueError (al_ve _) T.xk_InvalidStanding (raises_own T.xs_InvalidStanding T.xt_InvalidStanding) (hr.mono (by decide)) rfl T.xm_InvalidStanding (pv 2))))
      pss_nil)))), ?_⟩
      rw [show start ["seats", "standing", "index"] [.int n, v] = [some (.int n), some (v), none] from rfl]
      walk_at "go"
      refine g_isi ty k ?_
      walk_at "go"
      exact q
    · refine ⟨_, (pss_cons (ps_if (PW.pt (pw_or (pt_not (pt_val (pe_callB call_isi (by rfl) T.n_isinstance (by decide +kernel) (pa_cons (pv 1) (pa_cons (pe_bltn (v := .ty "list") (u := .type "list") rfl T.n_list (by decide +kernel) rfl) pa_nil))))) (pw_or1 (pt_cmpR op_ne (pe_callB cr_len (by rfl) T.n_len (by decide +kernel) (pa_cons (pv 1) pa_nil)) (pv 0) (nomark _)))))
      (pss_one (ps_raise rfl (takes_of rfl rfl rfl rfl) (pmk_sup (k := 0) T.xz_InvalidStanding PySem.F.store_ValueError PySem.F.excBase_ValueError PySem.W.kxs_ValueError (al_ve _) T.xk_InvalidStanding (raises_own T.xs_InvalidStanding T.xt_InvalidStanding) (hr.mono (by decide)) rfl T.xm_InvalidStanding pe_non)))
      pss_nil)
    (pss_cons (ps_set (i := 2) sc_check_standing.nd rfl (Or.inl rfl) (pe_call (ok_wrong_placeA T) (hr.mono (by decide)) rfl T.m_wrong_place T.F_wrong_place.kp T.b_wrong_place .nil pass0 (pa_cons (pv 1) (pa_cons (pv 0) pa_nil))))
    (pss_one (ps_if (pt_cmpR op_notN (pv 2) pe_non (nomark _))
      (pss_one (ps_raise rfl (takes_of rfl rfl rfl rfl) (pmk_sup (k := 0) T.xz_InvalidStanding PySem.F.store_ValueError PySem.F.excBase_ValueError PySem.W.kxs_ValueError (al_ve _) T.xk_InvalidStanding (raises_own T.xs_InvalidStanding T.xt_InvalidStanding) (hr.mono (by decide)) rfl T.xm_InvalidStanding (pv 2))))
      pss_nil)))), ?_⟩
      rw [show start ["seats", "standing", "index"] [.int n, .ref p] = [some (.int n), some (.ref p), none] from rfl]
      walk_at "go"
      refine g_isi (T' := "list") (.base (.lst hp)) (by decide +kernel : kitB "list" "list" = some true) ?_
      walk_at "go"
      refine g_kNY (by simpa using fun z => l (by omega)) ?_
      walk_at "go"
      exact q
    · refine ⟨_, (pss_cons (ps_if (PW.pt (pw_or (pt_not (pt_val (pe_callB call_isi (by rfl) T.n_isinstance (by decide +kernel) (pa_cons (pv 1) (pa_cons (pe_bltn (v := .ty "list") (u := .type "list") rfl T.n_list (by decide +kernel) rfl) pa_nil))))) (pw_or1 (pt_cmpR op_ne (pe_callB cr_len (by rfl) T.n_len (by decide +kernel) (pa_cons (pv 1) pa_nil)) (pv 0) (nomark _)))))
      (pss_one (ps_raise rfl (takes_of rfl rfl rfl rfl) (pmk_sup (k := 0) T.xz_InvalidStanding PySem.F.store_ValueError PySem.F.excBase_ValueError PySem.W.kxs_ValueError (al_ve _) T.xk_InvalidStanding (raises_own T.xs_InvalidStanding T.xt_InvalidStanding) (hr.mono (by decide)) rfl T.xm_InvalidStanding pe_non)))
      pss_nil)
    (pss_cons (ps_set (i := 2) sc_check_standing.nd rfl (Or.inl rfl) (pe_call (ok_wrong_placeA T) (hr.mono (by decide)) rfl T.m_wrong_place T.F_wrong_place.kp T.b_wrong_place .nil pass0 (pa_cons (pv 1) (pa_cons (pv 0) pa_nil))))
    (pss_one (ps_if (pt_cmpR op_notN (pv 2) pe_non (nomark _))
      (pss_one (ps_raise rfl (takes_of rfl rfl rfl rfl) (pmk_sup (k := 0) T.xz_InvalidStanding PySem.F.store_ValueError PySem.F.excBase_ValueError PySem.W.kxs_ValueError (al_ve _) T.xk_InvalidStanding (raises_own T.xs_InvalidStanding T.xt_InvalidStanding) (hr.mono (by decide)) rfl T.xm_InvalidStanding (pv 2))))
      pss_nil)))), ?_⟩
      rw [show start ["seats", "standing", "index"] [.int n, .ref p] = [some (.int n), some (.ref p), none] from rfl]
      walk_at "go"
      refine g_isi (T' := "list") (.base (.lst hp)) (by decide +kernel : kitB "list" "list" = some true) ?_
      walk_at "go"
      refine g_kNX (by rw [l]) ?_
      walk_at "go"
      refine .inr ⟨p, ns, n, bad, rest, o, rfl, hp, ?_, nd, hin, hw, hb, fun H' hK => ?_⟩
      · rw [List.length_append, List.length_map, List.length_cons] at l
        omega
      walk_at "go"
      refine ⟨rfl, ?_⟩
      walk_at "go"
      refine g_kNY (fun z => by cases z) ?_
      walk_at "go"
      exact fun d hd => q H' d hK hd
theorem ok_check_order_ofX (T : Txt P K mg base) : FnOk P w K mg base (L2.CX P w) 4 T.a_check_order_of T.fd_check_order_of ["order", "count"] (spOrderX K T.X_InvalidOrder) := by
  refine fnK_of T.F_check_order_of sc_check_order_of (fun vs H Q E h => ?_) (fun cdv A outer s H vs Q E hcd hr h => ?_)
  · rcases h with ⟨_, _, _, rfl, _⟩ | ⟨_, _, _, rfl, _⟩ | ⟨_, _, _, _, _, _, rfl, _⟩ <;> rfl
  · rcases h with ⟨n, v, t, rfl, ty, k, q⟩ | ⟨n, p, zs, rfl, hp, l, q⟩ | ⟨n, p, ns, rest, bad, o, rfl, hp, l, n40, nd, hin, hw, hb, q⟩
    · refine ⟨_, (pss_cons (ps_if (PW.pt (pw_or (pt_not (pt_val (pe_callB call_isi (by rfl) T.n_isinstance (by decide +kernel) (pa_cons (pv 0) (pa_cons (pe_bltn (v := .ty "list") (u := .type "list") rfl T.n_list (by decide +kernel) rfl) pa_nil))))) (pw_or1 (pt_cmpR op_ne (pe_callB cr_len (by rfl) T.n_len (by decide +kernel) (pa_cons (pv 0) pa_nil)) (pv 1) (nomark _)))))
      (pss_one (ps_raise rfl (takes_of rfl rfl rfl rfl) (pmk_sup (k := 0) T.xz_InvalidOrder PySem.F.store_ValueError PySem.F.excBase_ValueError PySem.W.kxs_ValueError (al_ve _) T.xk_InvalidOrder (raises_own T.xs_InvalidOrder T.xt_InvalidOrder) (hr.mono (by decide)) rfl T.xm_InvalidOrder pe_non)))
      pss_nil)
    (pss_cons (ps_set (i := 2) sc_check_order_of.nd rfl (Or.inl rfl) (pe_call (ok_wrong_placeA T) (hr.mono (by decide)) rfl T.m_wrong_place T.F_wrong_place.kp T.b_wrong_place .nil pass0 (pa_cons (pv 0) (pa_cons (pv 1) pa_nil))))
    (pss_one (ps_if (pt_cmpR op_notN (pv 2) pe_non (nomark _))
      (pss_one (ps_raise rfl (takes_of rfl rfl rfl rfl) (pmk_sup (k := 0) T.xz_InvalidOrder PySem.F.store_ValueError PySem.F.excBase_ValueError PySem.W.kxs_ValueError (al_ve _) T.xk_InvalidOrder (raises_own T.xs_InvalidOrder T.xt_InvalidOrder) (hr.mono (by decide)) rfl T.xm_InvalidOrder (pv 2))))
      pss_nil)))), ?_⟩
      rw [show start ["order", "count", "index"] [v, .int n] = [some (v), some (.int n), none] from rfl]
      walk_at "go"
      refine g_isi ty k ?_
      walk_at "go"
      exact q
    · refine ⟨_, (pss_cons (ps_if (PW.pt (pw_or (pt_not (pt_val (pe_callB call_isi (by rfl) T.n_isinstance (by decide +kernel) (pa_cons (pv 0) (pa_cons (pe_bltn (v := .ty "list") (u := .type "list") rfl T.n_list (by decide +kernel) rfl) pa_nil))))) (pw_or1 (pt_cmpR op_ne (pe_callB cr_len (by rfl) T.n_len (by decide +kernel) (pa_cons (pv 0) pa_nil)) (pv 1) (nomark _)))))
      (pss_one (ps_raise rfl (takes_of rfl rfl rfl rfl) (pmk_sup (k := 0) T.xz_InvalidOrder PySem.F.store_ValueError PySem.F.excBase_ValueError PySem.W.kxs_ValueError (al_ve _) T.xk_InvalidOrder (raises_own T.xs_InvalidOrder T.xt_InvalidOrder) (hr.mono (by decide)) rfl T.xm_InvalidOrder pe_non)))
      pss_nil)
    (pss_cons (ps_set (i := 2) sc_check_order_of.nd rfl (Or.inl rfl) (pe_call (ok_wrong_placeA T) (hr.mono (by decide)) rfl T.m_wrong_place T.F_wrong_place.kp T.b_wrong_place .nil pass0 (pa_cons (pv 0) (pa_cons (pv 1) pa_nil))))
    (pss_one (ps_if (pt_cmpR op_notN (pv 2) pe_non (nomark _))
      (pss_one (ps_raise rfl (takes_of rfl rfl rfl rfl) (pmk_sup (k := 0) T.xz_InvalidOrder PySem.F.store_ValueError PySem.F.excBase_ValueError PySem.W.kxs_ValueError (al_ve _) T.xk_InvalidOrder (raises_own T.xs_InvalidOrder T.xt_InvalidOrder) (hr.mono (by decide)) rfl T.xm_InvalidOrder (pv 2))))
      pss_nil)))), ?_⟩
      rw [show start ["order", "count", "index"] [.ref p, .int n] = [some (.ref p), some (.int n), none] from rfl]
      walk_at "go"
      refine g_isi (T' := "list") (.base (.lst hp)) (by decide +kernel : kitB "list" "list" = some true) ?_
      walk_at "go"
      refine g_kNY (by simpa using fun z => l (by omega)) ?_
      walk_at "go"
      exact q
    · refine ⟨_, (pss_cons (ps_if (PW.pt (pw_or (pt_not (pt_val (pe_callB call_isi (by rfl) T.n_isinstance (by decide +kernel) (pa_cons (pv 0) (pa_cons (pe_bltn (v := .ty "list") (u := .type "list") rfl T.n_list (by decide +kernel) rfl) pa_nil))))) (pw_or1 (pt_cmpR op_ne (pe_callB cr_len (by rfl) T.n_len (by decide +kernel) (pa_cons (pv 0) pa_nil)) (pv 1) (nomark _)))))
      (pss_one (ps_raise rfl (takes_of rfl rfl rfl rfl) (pmk_sup (k := 0) T.xz_InvalidOrder PySem.F.store_ValueError PySem.F.excBase_ValueError PySem.W.kxs_ValueError (al_ve _) T.xk_InvalidOrder (raises_own T.xs_InvalidOrder T.xt_InvalidOrder) (hr.mono (by decide)) rfl T.xm_InvalidOrder pe_non)))
      pss_nil)
    (pss_cons (ps_set (i := 2) sc_check_order_of.nd rfl (Or.inl rfl) (pe_call (ok_wrong_placeA T) (hr.mono (by decide)) rfl T.m_wrong_place T.F_wrong_place.kp T.b_wrong_place .nil pass0 (pa_cons (pv 0) (pa_cons (pv 1) pa_nil))))
    (pss_one (ps_if (pt_cmpR op_notN (pv 2) pe_non (nomark _))
      (pss_one (ps_raise rfl (takes_of rfl rfl rfl rfl) (pmk_sup (k := 0) T.xz_InvalidOrder PySem.F.store_ValueError PySem.F.excBase_ValueError PySem.W.kxs_ValueError (al_ve _) T.xk_InvalidOrder (raises_own T.xs_InvalidOrder T.xt_InvalidOrder) (hr.mono (by decide)) rfl T.xm_InvalidOrder (pv 2))))
      pss_nil)))), ?_⟩
      rw [show start ["order", "count", "index"] [.ref p, .int n] = [some (.ref p), some (.int n), none] from rfl]
      walk_at "go"
      refine g_isi (T' := "list") (.base (.lst hp)) (by decide +kernel : kitB "list" "list" = some true) ?_
      walk_at "go"
      refine g_kNX (by rw [l]) ?_
      walk_at "go"
      refine .inr ⟨p, ns, n, bad, rest, o, rfl, hp, ?_, nd, hin, hw, hb, fun H' hK => ?_⟩
      · rw [List.length_append, List.length_map, List.length_cons] at l
        omega
      walk_at "go"
      refine ⟨rfl, ?_⟩
      walk_at "go"
      refine g_kNY (fun z => by cases z) ?_
      walk_at "go"
      exact fun d hd => q H' d hK hd
theorem ok_check_standingA (T : Txt P K mg base) : FnOk P w K mg base (L2.CX P w) 4 T.a_check_standing T.fd_check_standing ["seats", "standing"] (orS spStanding (spStandingX K T.X_InvalidStanding)) := FnOk.or (FnOk.may (ok_check_standing T)) (ok_check_standingX T)
theorem ok_check_order_ofA (T : Txt P K mg base) : FnOk P w K mg base (L2.CX P w) 4 T.a_check_order_of T.fd_check_order_of ["order", "count"] (orS spOrderOf (spOrderX K T.X_InvalidOrder)) := FnOk.or (FnOk.may (ok_check_order_of T)) (ok_check_order_ofX T)
end
end Ap


namespace Ap
open PySem L2 PySem.Spec PyProof.Rows
/-- a call of what is no seat -/
def spRmCallX (C : Addr) (K : PySem.W.Frag) (N : Addr) : Sp := fun vs H _ E => ∃ (x qp : Addr) (G : Addr → Prop) (n : Nat) (ts : List Tie) (hs : List RS) (cur : RS) (v : V) (o : Option Int), vs = [.ref x, v] ∧ Rm C x qp G n ts hs cur H ∧ Wh K H v o ∧ inI o n = false ∧ ∀ d, H d = none → E (.ref N) (some d) (upd H d (.xd [("number", v)]))
/-- a round in what is no order -/
def spRmRoundX (C : Addr) (K : PySem.W.Frag) (N : Addr) : Sp := fun vs H Q E => ∃ (x qp : Addr) (G : Addr → Prop) (n : Nat) (ts : List Tie) (hs : List RS) (cur : RS) (v : V), vs = [.ref x, v] ∧ Rm C x qp G n ts hs cur H ∧ spOrderX K N [v, .int n] H Q E
/-- what no room is made of -/
def spRmInitX (C : Addr) (tb : List Addr) (K : PySem.W.Frag) (N I S : Addr) : Sp := fun vs H Q E => ∃ (x : Addr) (n t r : V), vs = [.ref x, n, t, r] ∧
  (spNetX tb K N I [n, t] H Q E ∨ ∃ (k : Nat) (ts : List Tie), n = .int k ∧ 3 ≤ k ∧ k ≤ 40 ∧ NetS (up k) ts ∧ Nt H t ts ∧ Tabs tb H ∧ ∀ H', Kp [] H H' → spStandingX K S [n, r] H' Q E)
section
variable {P : Program} {w : World} {K : PySem.W.Frag} {mg : Str → Option Value} {base : Heap}
theorem ok_Room_callX (T : Txt P K mg base) : FnOk P w K mg base (L2.CX P w) 4 T.a_Room_call T.fd_Room_call ["self", "number"] (spRmCallX T.C_Room K T.X_UnknownCall) := by
  refine fnK_of T.F_Room_call sc_Room_call (fun vs H Q E h => ?_) (fun cdv A outer s H vs Q E hcd hr h => ?_)
  · obtain ⟨x, qp, G, n, ts, hs, cur, v, o, rfl, _⟩ := h
    rfl
  · obtain ⟨x, qp, G, n, ts, hs, cur, v, o, rfl, R, ho, hb, q⟩ := h
    obtain ⟨dx, pp, np, rp, h1, -⟩ := R.obj
    refine ⟨_, (pss_cons (ps_if (pt_not (pt_val (pe_call (ok_is_within T) (hr.mono (by decide)) rfl T.m_is_within T.F_is_within.kp T.b_is_within .nil pass0 (pa_cons (pv 1) (pa_cons (pe_fld (pv 0) rfl) pa_nil)))))
      (pss_one (ps_raise rfl (takes_of rfl rfl rfl rfl) (pmk_sup (k := 0) T.xz_UnknownCall store_LookupError PySem.F.excBase_LookupError PySem.W.kxs_LookupError (al_le _) T.xk_UnknownCall (raises_own T.xs_UnknownCall T.xt_UnknownCall) (hr.mono (by decide)) rfl T.xm_UnknownCall (pv 1))))
      pss_nil)
    (pss_one (ps_ret (pe_cmpR op_eq (pe_meth (pv 0) T.cl_Room T.mt_Room_make (ok_Room_make T) (hr.mono (by decide)) T.b_Room_make .nil pass0 (pa_cons (pe_lst (pa_cons (pv 1) pa_nil)) pa_nil)) pe_int (nomark _))))), ?_⟩
    rw [show start ["self", "number"] [.ref x, v] = [some (.ref x), some (v)] from rfl]
    walk_at "go"
    refine g_kFld h1 T.cl_Room T.nA_Room_many rf_many ?_
    walk_at "go"
    refine ⟨v, o, n, rfl, ho, ?_⟩
    rw [hb]
    walk_at "go"
    exact q
theorem ok_Room_roundX (T : Txt P K mg base) : FnOk P w K mg base (L2.CX P w) 5 T.a_Room_round T.fd_Room_round ["self", "order"] (spRmRoundX T.C_Room K T.X_InvalidOrder) := by
  refine fnK_of T.F_Room_round sc_Room_round (fun vs H Q E h => ?_) (fun cdv A outer s H vs Q E hcd hr h => ?_)
  · obtain ⟨x, qp, G, n, ts, hs, cur, v, rfl, _⟩ := h
    rfl
  · obtain ⟨x, qp, G, n, ts, hs, cur, v, rfl, R, q⟩ := h
    obtain ⟨dx, pp, np, rp, h1, -⟩ := R.obj
    refine ⟨_, (pss_cons (ps_expr (pe_callS (ok_check_order_ofA T) (hr.mono (by decide)) rfl T.m_check_order_of T.F_check_order_of.kp T.b_check_order_of (fun σ => passAt (takes_of rfl rfl rfl rfl) σ) (pa_cons (pv 1) (pa_cons (pe_fld (pv 0) rfl) pa_nil))))
    (pss_one (ps_ret (pe_meth (pv 0) T.cl_Room T.mt_Room_make (ok_Room_make T) (hr.mono (by decide)) T.b_Room_make .nil pass0 (pa_cons (pv 1) pa_nil))))), ?_⟩
    rw [show start ["self", "order"] [.ref x, v] = [some (.ref x), some (v)] from rfl]
    walk_at "go"
    refine g_kFld h1 T.cl_Room T.nA_Room_many rf_many ?_
    walk_at "go"
    exact .inr q
theorem ok_Room_round_backX (T : Txt P K mg base) : FnOk P w K mg base (L2.CX P w) 5 T.a_Room_round_back T.fd_Room_round_back ["self", "order"] (spRmRoundX T.C_Room K T.X_InvalidOrder) := by
  refine fnK_of T.F_Room_round_back sc_Room_round_back (fun vs H Q E h => ?_) (fun cdv A outer s H vs Q E hcd hr h => ?_)
  · obtain ⟨x, qp, G, n, ts, hs, cur, v, rfl, _⟩ := h
    rfl
  · obtain ⟨x, qp, G, n, ts, hs, cur, v, rfl, R, q⟩ := h
    obtain ⟨dx, pp, np, rp, h1, -⟩ := R.obj
    refine ⟨_, (pss_cons (ps_expr (pe_callS (ok_check_order_ofA T) (hr.mono (by decide)) rfl T.m_check_order_of T.F_check_order_of.kp T.b_check_order_of (fun σ => passAt (takes_of rfl rfl rfl rfl) σ) (pa_cons (pv 1) (pa_cons (pe_fld (pv 0) rfl) pa_nil))))
    (pss_one (ps_ret (pe_meth (pv 0) T.cl_Room T.mt_Room_make (ok_Room_make T) (hr.mono (by decide)) T.b_Room_make .nil pass0 (pa_cons (pe_revL (pv 1)) pa_nil))))), ?_⟩
    rw [show start ["self", "order"] [.ref x, v] = [some (.ref x), some (v)] from rfl]
    walk_at "go"
    refine g_kFld h1 T.cl_Room T.nA_Room_many rf_many ?_
    walk_at "go"
    exact .inr q
theorem ok_Room___init__X (T : Txt P K mg base) : FnOk P w K mg base (L2.CX P w) 6 T.a_Room___init__ T.fd_Room___init__ ["self", "seats", "ties", "standing"] (spRmInitX T.C_Room T.tbs K T.X_InvalidNumber T.X_InvalidTies T.X_InvalidStanding) := by
  refine fnK_of T.F_Room___init__ sc_Room___init__ (fun vs H Q E h => ?_) (fun cdv A outer s H vs Q E hcd hr h => ?_)
  · obtain ⟨x, n, t, r, rfl, _⟩ := h
    rfl
  · obtain ⟨x, n, t, r, rfl, q⟩ := h
    refine ⟨_, (pss_cons (ps_expr (pe_callS (ok_check_netA T) (hr.mono (by decide)) rfl T.m_check_net T.F_check_net.kp T.b_check_net (fun σ => passAt (takes_of rfl rfl rfl rfl) σ) (pa_cons (pv 1) (pa_cons (pv 2) pa_nil))))
    (pss_cons (ps_expr (pe_callS (ok_check_standingA T) (hr.mono (by decide)) rfl T.m_check_standing T.F_check_standing.kp T.b_check_standing (fun σ => passAt (takes_of rfl rfl rfl rfl) σ) (pa_cons (pv 1) (pa_cons (pv 3) pa_nil))))
    (pss_cons (ps_fld (pv 0) (pv 1) rfl)
    (pss_cons (ps_fld (pv 0) (pe_lc (own := [("tie", 4)]) (g := gName 4) (tt := tYes) rfl sc_Room___init__.nd (pi_list (pv 2)) (blkOk_by (N := ["self", "seats", "ties", "standing", "tie"]) (sc := defScope s_Room___init__) (by decide +kernel)) (fun _ _ _ _ _ => (pg_name (i := 4) sc_Room___init__.nd rfl (Or.inl rfl))) (fun _ _ _ _ _ => pts_nil) (fun _ _ _ _ _ => (pe_callTy (r := rLo K) cr_list (by rfl) T.n_list (by decide +kernel) (pa_cons (pv 4) pa_nil)))) rfl)
    (pss_cons (ps_fld (pv 0) (pe_call (ok_near_in T) (hr.mono (by decide)) rfl T.m_near_in T.F_near_in.kp T.b_near_in .nil pass0 (pa_cons (pv 1) (pa_cons (pv 2) pa_nil))) rfl)
    (pss_cons (ps_fld (pv 0) (pe_callTy cr_list (by rfl) T.n_list (by decide +kernel) (pa_cons (pv 3) pa_nil)) rfl)
    (pss_cons (ps_fld (pv 0) pe_int rfl)
    (pss_one (ps_fld (pv 0) (pe_lst pa_nil) rfl))))))))), ?_⟩
    rw [show start ["self", "seats", "ties", "standing", "tie"] [.ref x, n, t, r] = [some (.ref x), some (n), some (t), some (r), none] from rfl]
    walk_at "go"
    rcases q with q | ⟨k, ts, rfl, k3, k40, net, hN, hT, q⟩
    · refine .inr ?_
      rcases q with q | q | q
      · exact .inl q
      · exact .inr (.inl q)
      · exact .inr (.inr q)
    · refine .inl ⟨k, ts, t, rfl, k3, k40, net, hN, hT, fun H1 k1 => ?_⟩
      walk_at "go"
      exact .inr (q H1 k1)
end
end Ap


namespace Ap
open PySem L2 PySem.Spec PyProof.Rows
/-- what _law_caught makes of an error -/
def CauE (K : PySem.W.Frag) (N I S O U Z : Addr) (Q : VK) : XK := fun cls d H => (cls = .ref Z ∧ d = none ∧ ∀ H', Kp [] H H' → Q (.str "nothing") H') ∨
  ∃ (C dd : Addr) (f l : Str) (v : V) (x : PyData) (b e : Nat), (C, f, l) ∈ [(U, ("number" : Str), ("call" : Str)), (N, "number", "figure"), (I, "index", "ties"), (S, "index", "standing"), (O, "index", "order")] ∧ cls = .ref C ∧ d = some dd ∧ H dd = some (.xd [(f, v)]) ∧
    (∀ H', Kp [] H H' → DpE K H' v x) ∧ Shw (.list [.str l, x]) b e ∧ b ≤ 1000000 ∧ e < 60 ∧ ∀ H', Kp [] H H' → Q (.str (PyData.list [.str l, x]).shown) H'
def TTc (K : PySem.W.Frag) (N I S O U Z : Addr) : (XK → Hp → VK → Prop) → Hp → VK → Prop := fun tl H Q =>
  ∀ (E' : XK) (Q' : VK), (∀ cls d H', CauE K N I S O U Z Q cls d H' → E' cls d H') → (∀ v H', Q (.str "told") H' → Q' v H') → tl E' H Q'
def tAsk (tl : XK → Hp → VK → Prop) (f d : Addr) (q : Str) (n : Nat) (W : WX) : TS := fun D σ H => ∃ Ech : XK, (∀ cls d' σ' H', Ech cls d' H' → σ'.length = n → W cls d' σ' H') ∧ σ[0]? = some (some (.ref f)) ∧ H d = some (LamX.CodeO d q) ∧ tl Ech H (fun _ H' => D.nx σ H')
theorem pss_ask {X : Cx} {W : WX} {pn : List (Addr × Obj)} {xe : Value → Shared → Prop} {tl : XK → Hp → VK → Prop} {f d : Addr} {q a : Str} {p1 p2 p3 : Pos}
    (act : ∀ (W : WX) (pn : List (Addr × Obj)) (xe : Value → Shared → Prop) (E : XK) (p1 p2 : Pos), Takes (X.tr pn xe) W → (∀ cls d σ' H', E cls d H' → W cls d σ' H') →
      PE (X.tr pn xe) (.Call (.Name a p1) [] [] p2) (fun σZ HZ Q => σZ[0]? = some (some (.ref f)) ∧ HZ d = some (LamX.CodeO d q) ∧ tl E HZ Q)) (tk : Takes (X.tr pn xe) W) :
    PSs (X.tr pn xe) [.Expr (.Call (.Name a p1) [] [] p2) p3] (tAsk tl f d q X.N.length W) := by
  refine ⟨fun pins s σ H D I h => ?_⟩
  obtain ⟨Ech, hW, h1, h2, h3⟩ := h
  exact (pss_one (ps_expr (act _ pn xe Ech p1 p2 (takes_len tk) hW))).run pins s σ H D I ⟨h1, h2, h3⟩
section
variable {K : PySem.W.Frag} {H : Hp} {Q : VK}
theorem g_isA {a D : Addr} {d : Option Addr} {c : V} {cv : Value} {b : Bool} (ha : H a = some (exA a (.ref D) d)) (hd : ∀ dd, d = some dd → ∃ fs, H dd = some (.xd fs)) (hc : ExcC K D) (k : PySem.W.kitOne K (.ref D) cv = some b) (hcv : ∀ u, RelV c u → u = cv) (h : Q (.bl b) H) : rIsA K [.ref a, c] H Q :=
  ⟨a, D, d, c, cv, b, rfl, ha, hc, hcv, k, hd, h⟩
end
section
variable {P : Program} {w : World} {K : PySem.W.Frag} {mg : Str → Option Value} {base : Heap}
theorem giv_Lcaught (T : Txt P K mg base) : Giv P w K mg base 8 "_law_caught" "_law_ask" s_Lcaught ["_law_ask", "_law_error", "e", "_law_kinds"] T.a_Lcaught T.fd_Lcaught.code (TTc K T.X_InvalidNumber T.X_InvalidTies T.X_InvalidStanding T.X_InvalidOrder T.X_UnknownCall T.X_NothingToUndo) := by
  refine ⟨fun B outs s H Q tl f d q gd hr act hco h => ?_⟩
  refine ⟨_, (pss_cons (ps_set (i := 1) sc_Lcaught.nd rfl (Or.inl rfl) pe_non)
    (pss_cons (ps_tryA (i := 2) rfl rfl sc_Lcaught.nd rfl rfl (fun W pn xe tk _ => (pss_ask act tk)) (.cons (ct_tup3 ⟨rfl, by decide, .inl T.xm_InvalidNumber⟩ ⟨rfl, by decide, .inl T.xm_InvalidOrder⟩ ⟨rfl, by decide, .inl T.xm_InvalidStanding⟩) (fun a oe cls d pn hz hf => (pss_one (ps_set (i := 1) sc_Lcaught.nd rfl (Or.inl rfl) (pv 2)))) (.cons (ct_tup3 ⟨rfl, by decide, .inl T.xm_InvalidTies⟩ ⟨rfl, by decide, .inl T.xm_NothingToUndo⟩ ⟨rfl, by decide, .inl T.xm_UnknownCall⟩) (fun a oe cls d pn hz hf => (pss_one (ps_set (i := 1) sc_Lcaught.nd rfl (Or.inl rfl) (pv 2)))) .nil)))
    (pss_cons (ps_if (pt_cmpR op_isN (pv 1) pe_non (nomark _))
      (pss_one (ps_ret pe_str))
      pss_nil)
    (pss_cons (ps_if (pt_val (pe_callB cr_isA (by rfl) T.n_isinstance (by decide +kernel) (pa_cons (pv 1) (pa_cons (pe_glob (v := .ref T.X_NothingToUndo) (u := .ref T.X_NothingToUndo) rfl T.xm_NothingToUndo rfl) pa_nil))))
      (pss_one (ps_ret pe_str))
      pss_nil)
    (pss_cons (ps_if (pt_val (pe_callB cr_isA (by rfl) T.n_isinstance (by decide +kernel) (pa_cons (pv 1) (pa_cons (pe_glob (v := .ref T.X_UnknownCall) (u := .ref T.X_UnknownCall) rfl T.xm_UnknownCall rfl) pa_nil))))
      (pss_one (ps_ret (pe_ifExp (pt_val (pe_callB cr_isA (by rfl) T.n_isinstance (by decide +kernel) (pa_cons (pv 1) (pa_cons (pe_bltn (v := .ty "LookupError") (u := .type "LookupError") rfl T.n_LookupError (by decide +kernel) rfl) pa_nil)))) (pe_repr2 hr gd rfl T.n_repr (pa_cons pe_str (pa_cons (pe_xk (pv 1)) pa_nil))) pe_str)))
      pss_nil)
    (pss_cons (ps_if (pt_not (pt_val (pe_callB cr_isA (by rfl) T.n_isinstance (by decide +kernel) (pa_cons (pv 1) (pa_cons (pe_bltn (v := .ty "ValueError") (u := .type "ValueError") rfl T.n_ValueError (by decide +kernel) rfl) pa_nil)))))
      (pss_one (ps_ret pe_str))
      pss_nil)
    (pss_cons (ps_if (pt_val (pe_callB cr_isA (by rfl) T.n_isinstance (by decide +kernel) (pa_cons (pv 1) (pa_cons (pe_glob (v := .ref T.X_InvalidNumber) (u := .ref T.X_InvalidNumber) rfl T.xm_InvalidNumber rfl) pa_nil))))
      (pss_one (ps_ret (pe_repr2 hr gd rfl T.n_repr (pa_cons pe_str (pa_cons (pe_xk (pv 1)) pa_nil)))))
      pss_nil)
    (pss_cons (ps_set (i := 3) sc_Lcaught.nd rfl (Or.inl rfl) (pe_lst (pa_cons (pe_callB cr_isA (by rfl) T.n_isinstance (by decide +kernel) (pa_cons (pv 1) (pa_cons (pe_glob (v := .ref T.X_InvalidTies) (u := .ref T.X_InvalidTies) rfl T.xm_InvalidTies rfl) pa_nil))) (pa_cons (pe_callB cr_isA (by rfl) T.n_isinstance (by decide +kernel) (pa_cons (pv 1) (pa_cons (pe_glob (v := .ref T.X_InvalidStanding) (u := .ref T.X_InvalidStanding) rfl T.xm_InvalidStanding rfl) pa_nil))) (pa_cons pe_bl pa_nil)))))
    (pss_one (ps_ret (pe_repr2 hr gd rfl T.n_repr (pa_cons (pe_ix ix_list (pe_lst (pa_cons pe_str (pa_cons pe_str (pa_cons pe_str pa_nil)))) (pe_bm PySem.F.plainAttrs_list PySem.F.slot_list_index PySem.F.type_list_index mt_index (pv 3) (pa_cons pe_bl pa_nil)) (fun _ _ => rfl)) (pa_cons (pe_xk (pv 1)) pa_nil))))))))))))), ?_⟩
  rw [show start ["_law_ask", "_law_error", "e", "_law_kinds"] [.ref f] = [some (.ref f), none, none, none] from rfl]
  walk_at "go"
  refine ⟨CauE K T.X_InvalidNumber T.X_InvalidTies T.X_InvalidStanding T.X_InvalidOrder T.X_UnknownCall T.X_NothingToUndo Q, fun cls d' σ' H' hE hl => ?_, rfl, hco, ?_⟩
  rotate_left
  · refine h _ _ (fun _ _ _ e => e) (fun v H' q => ?_)
    walk_at "go"
    refine ⟨rfl, ?_⟩
    rw [show decide (V.non = V.non) = true from decide_eq_true rfl]
    walk_at "go"
    exact q
  obtain ⟨x0, x1, x2, x3, rfl⟩ := len4 hl
  rcases hE with ⟨rfl, rfl, q⟩ | ⟨C, dd, fl, l, v, x, b, e, hm, rfl, rfl, hd, hv, sh, hb, he, q⟩
  · refine g_wNo (exm3 (exm_no T.kk_NothingToUndo_InvalidNumber T.xs_InvalidNumber) (exm_no T.kk_NothingToUndo_InvalidOrder T.xs_InvalidOrder) (exm_no T.kk_NothingToUndo_InvalidStanding T.xs_InvalidStanding)) ?_
    refine g_wYes (exm3 (exm_no T.kk_NothingToUndo_InvalidTies T.xs_InvalidTies) T.xe_NothingToUndo (exm_no T.kk_NothingToUndo_UnknownCall T.xs_UnknownCall)) fun a ha => ?_
    show tAsg (tVar 2) (gName 1) _ [x0, x1, some (.ref a), x3] H'
    walk_at "go"
    rw [show [x0, some (V.ref a), some (V.ref a), x3].set 2 none = [x0, some (V.ref a), none, x3] from rfl]
    walk_at "go"
    refine ⟨rfl, ?_⟩
    rw [show decide (V.ref a = V.non) = false by simp]
    walk_at "go"
    have ea : upd H' a (exA a (.ref T.X_NothingToUndo) none) a = some (exA a (.ref T.X_NothingToUndo) none) := upd_same
    have hdd : ∀ dd, (none : Option Addr) = some dd → ∃ fs, upd H' a (exA a (.ref T.X_NothingToUndo) none) dd = some (.xd fs) := fun _ z => nomatch z
    have kx : Kp [] H' (upd H' a (exA a (.ref T.X_NothingToUndo) none)) := Kp.new ha
    generalize upd H' a (exA a (.ref T.X_NothingToUndo) none) = G at *
    refine g_isA ea hdd T.xC_NothingToUndo T.kk_NothingToUndo_NothingToUndo (cv := .ref T.X_NothingToUndo) (fun u r => r) ?_
    walk_at "go"
    exact q G kx
  simp only [List.mem_cons, Prod.mk.injEq, List.not_mem_nil, or_false] at hm
  rcases hm with ⟨rfl, rfl, rfl⟩ | ⟨rfl, rfl, rfl⟩ | ⟨rfl, rfl, rfl⟩ | ⟨rfl, rfl, rfl⟩ | ⟨rfl, rfl, rfl⟩
  · refine g_wNo (exm3 (exm_no T.kk_UnknownCall_InvalidNumber T.xs_InvalidNumber) (exm_no T.kk_UnknownCall_InvalidOrder T.xs_InvalidOrder) (exm_no T.kk_UnknownCall_InvalidStanding T.xs_InvalidStanding)) ?_
    refine g_wYes (exm3 (exm_no T.kk_UnknownCall_InvalidTies T.xs_InvalidTies) (exm_no T.kk_UnknownCall_NothingToUndo T.xs_NothingToUndo) T.xe_UnknownCall) fun a ha => ?_
    show tAsg (tVar 2) (gName 1) _ [x0, x1, some (.ref a), x3] H'
    walk_at "go"
    rw [show [x0, some (V.ref a), some (V.ref a), x3].set 2 none = [x0, some (V.ref a), none, x3] from rfl]
    walk_at "go"
    refine ⟨rfl, ?_⟩
    rw [show decide (V.ref a = V.non) = false by simp]
    walk_at "go"
    have ed : upd H' a (exA a (.ref T.X_UnknownCall) (some dd)) dd = some (.xd [("number", v)]) := (upd_ne (ne_of_none hd ha)).trans hd
    have ea : upd H' a (exA a (.ref T.X_UnknownCall) (some dd)) a = some (exA a (.ref T.X_UnknownCall) (some dd)) := upd_same
    have hdd : ∀ d2, some dd = some d2 → ∃ fs, upd H' a (exA a (.ref T.X_UnknownCall) (some dd)) d2 = some (.xd fs) := fun _ z => by cases z; exact ⟨_, ed⟩
    have kx : Kp [] H' (upd H' a (exA a (.ref T.X_UnknownCall) (some dd))) := Kp.new ha
    generalize upd H' a (exA a (.ref T.X_UnknownCall) (some dd)) = G at *
    refine g_isA ea hdd T.xC_UnknownCall T.kk_UnknownCall_NothingToUndo (cv := .ref T.X_NothingToUndo) (fun u r => r) ?_
    walk_at "go"
    refine g_isA ea hdd T.xC_UnknownCall T.kk_UnknownCall_UnknownCall (cv := .ref T.X_UnknownCall) (fun u r => r) ?_
    walk_at "go"
    refine g_isA ea hdd T.xC_UnknownCall T.kb_UnknownCall_LookupError (cv := .type "LookupError") (fun u r => r) ?_
    walk_at "go"
    refine g_xk ea T.xC_UnknownCall T.xz_UnknownCall.nof ed rfl ?_
    walk_at "go"
    exact g_r2 (hv G kx) sh hb he fun H2 k2 => q H2 (kx.trans k2)
  · refine g_wYes (exm3 T.xe_InvalidNumber (exm_no T.kk_InvalidNumber_InvalidOrder T.xs_InvalidOrder) (exm_no T.kk_InvalidNumber_InvalidStanding T.xs_InvalidStanding)) fun a ha => ?_
    show tAsg (tVar 2) (gName 1) _ [x0, x1, some (.ref a), x3] H'
    walk_at "go"
    rw [show [x0, some (V.ref a), some (V.ref a), x3].set 2 none = [x0, some (V.ref a), none, x3] from rfl]
    walk_at "go"
    refine ⟨rfl, ?_⟩
    rw [show decide (V.ref a = V.non) = false by simp]
    walk_at "go"
    have ed : upd H' a (exA a (.ref T.X_InvalidNumber) (some dd)) dd = some (.xd [("number", v)]) := (upd_ne (ne_of_none hd ha)).trans hd
    have ea : upd H' a (exA a (.ref T.X_InvalidNumber) (some dd)) a = some (exA a (.ref T.X_InvalidNumber) (some dd)) := upd_same
    have hdd : ∀ d2, some dd = some d2 → ∃ fs, upd H' a (exA a (.ref T.X_InvalidNumber) (some dd)) d2 = some (.xd fs) := fun _ z => by cases z; exact ⟨_, ed⟩
    have kx : Kp [] H' (upd H' a (exA a (.ref T.X_InvalidNumber) (some dd))) := Kp.new ha
    generalize upd H' a (exA a (.ref T.X_InvalidNumber) (some dd)) = G at *
    refine g_isA ea hdd T.xC_InvalidNumber T.kk_InvalidNumber_NothingToUndo (cv := .ref T.X_NothingToUndo) (fun u r => r) ?_
    walk_at "go"
    refine g_isA ea hdd T.xC_InvalidNumber T.kk_InvalidNumber_UnknownCall (cv := .ref T.X_UnknownCall) (fun u r => r) ?_
    walk_at "go"
    refine g_isA ea hdd T.xC_InvalidNumber T.kb_InvalidNumber_ValueError (cv := .type "ValueError") (fun u r => r) ?_
    walk_at "go"
    refine g_isA ea hdd T.xC_InvalidNumber T.kk_InvalidNumber_InvalidNumber (cv := .ref T.X_InvalidNumber) (fun u r => r) ?_
    walk_at "go"
    refine g_xk ea T.xC_InvalidNumber T.xz_InvalidNumber.nof ed rfl ?_
    walk_at "go"
    exact g_r2 (hv G kx) sh hb he fun H2 k2 => q H2 (kx.trans k2)
  · refine g_wNo (exm3 (exm_no T.kk_InvalidTies_InvalidNumber T.xs_InvalidNumber) (exm_no T.kk_InvalidTies_InvalidOrder T.xs_InvalidOrder) (exm_no T.kk_InvalidTies_InvalidStanding T.xs_InvalidStanding)) ?_
    refine g_wYes (exm3 T.xe_InvalidTies (exm_no T.kk_InvalidTies_NothingToUndo T.xs_NothingToUndo) (exm_no T.kk_InvalidTies_UnknownCall T.xs_UnknownCall)) fun a ha => ?_
    show tAsg (tVar 2) (gName 1) _ [x0, x1, some (.ref a), x3] H'
    walk_at "go"
    rw [show [x0, some (V.ref a), some (V.ref a), x3].set 2 none = [x0, some (V.ref a), none, x3] from rfl]
    walk_at "go"
    refine ⟨rfl, ?_⟩
    rw [show decide (V.ref a = V.non) = false by simp]
    walk_at "go"
    have ed : upd H' a (exA a (.ref T.X_InvalidTies) (some dd)) dd = some (.xd [("index", v)]) := (upd_ne (ne_of_none hd ha)).trans hd
    have ea : upd H' a (exA a (.ref T.X_InvalidTies) (some dd)) a = some (exA a (.ref T.X_InvalidTies) (some dd)) := upd_same
    have hdd : ∀ d2, some dd = some d2 → ∃ fs, upd H' a (exA a (.ref T.X_InvalidTies) (some dd)) d2 = some (.xd fs) := fun _ z => by cases z; exact ⟨_, ed⟩
    have kx : Kp [] H' (upd H' a (exA a (.ref T.X_InvalidTies) (some dd))) := Kp.new ha
    generalize upd H' a (exA a (.ref T.X_InvalidTies) (some dd)) = G at *
    refine g_isA ea hdd T.xC_InvalidTies T.kk_InvalidTies_NothingToUndo (cv := .ref T.X_NothingToUndo) (fun u r => r) ?_
    walk_at "go"
    refine g_isA ea hdd T.xC_InvalidTies T.kk_InvalidTies_UnknownCall (cv := .ref T.X_UnknownCall) (fun u r => r) ?_
    walk_at "go"
    refine g_isA ea hdd T.xC_InvalidTies T.kb_InvalidTies_ValueError (cv := .type "ValueError") (fun u r => r) ?_
    walk_at "go"
    refine g_isA ea hdd T.xC_InvalidTies T.kk_InvalidTies_InvalidNumber (cv := .ref T.X_InvalidNumber) (fun u r => r) ?_
    walk_at "go"
    refine g_isA ea hdd T.xC_InvalidTies T.kk_InvalidTies_InvalidTies (cv := .ref T.X_InvalidTies) (fun u r => r) ?_
    walk_at "go"
    refine g_isA ea hdd T.xC_InvalidTies T.kk_InvalidTies_InvalidStanding (cv := .ref T.X_InvalidStanding) (fun u r => r) ?_
    walk_at "go"
    rename_i p1 hp1 p2 hp2
    have k1 := (Kp.refl [] G).put (o := .lst [.bl true, .bl false, .bl true]) hp1
    have k3 := k1.put (o := .lst [V.str "ties", V.str "standing", V.str "order"]) (k1.free hp2)
    refine ⟨p1, _, _, 0, .bl true, rfl, rfl, SqL.of (by walk_at "look"), rfl, rfl, rfl, rfl, (fun m z hm _ => absurd hm (Nat.not_lt_zero m)), ?_⟩
    walk_at "go"
    refine g_xk (k3.keep _ _ nin0 ea (ntb rfl)) T.xC_InvalidTies T.xz_InvalidTies.nof (k3.keep _ _ nin0 ed (ntb rfl)) rfl ?_
    walk_at "go"
    exact g_r2 (hv _ (kx.trans k3)) sh hb he fun H2 k2 => q H2 ((kx.trans k3).trans k2)
  · refine g_wYes (exm3 (exm_no T.kk_InvalidStanding_InvalidNumber T.xs_InvalidNumber) (exm_no T.kk_InvalidStanding_InvalidOrder T.xs_InvalidOrder) T.xe_InvalidStanding) fun a ha => ?_
    show tAsg (tVar 2) (gName 1) _ [x0, x1, some (.ref a), x3] H'
    walk_at "go"
    rw [show [x0, some (V.ref a), some (V.ref a), x3].set 2 none = [x0, some (V.ref a), none, x3] from rfl]
    walk_at "go"
    refine ⟨rfl, ?_⟩
    rw [show decide (V.ref a = V.non) = false by simp]
    walk_at "go"
    have ed : upd H' a (exA a (.ref T.X_InvalidStanding) (some dd)) dd = some (.xd [("index", v)]) := (upd_ne (ne_of_none hd ha)).trans hd
    have ea : upd H' a (exA a (.ref T.X_InvalidStanding) (some dd)) a = some (exA a (.ref T.X_InvalidStanding) (some dd)) := upd_same
    have hdd : ∀ d2, some dd = some d2 → ∃ fs, upd H' a (exA a (.ref T.X_InvalidStanding) (some dd)) d2 = some (.xd fs) := fun _ z => by cases z; exact ⟨_, ed⟩
    have kx : Kp [] H' (upd H' a (exA a (.ref T.X_InvalidStanding) (some dd))) := Kp.new ha
    generalize upd H' a (exA a (.ref T.X_InvalidStanding) (some dd)) = G at *
    refine g_isA ea hdd T.xC_InvalidStanding T.kk_InvalidStanding_NothingToUndo (cv := .ref T.X_NothingToUndo) (fun u r => r) ?_
    walk_at "go"
    refine g_isA ea hdd T.xC_InvalidStanding T.kk_InvalidStanding_UnknownCall (cv := .ref T.X_UnknownCall) (fun u r => r) ?_
    walk_at "go"
    refine g_isA ea hdd T.xC_InvalidStanding T.kb_InvalidStanding_ValueError (cv := .type "ValueError") (fun u r => r) ?_
    walk_at "go"
    refine g_isA ea hdd T.xC_InvalidStanding T.kk_InvalidStanding_InvalidNumber (cv := .ref T.X_InvalidNumber) (fun u r => r) ?_
    walk_at "go"
    refine g_isA ea hdd T.xC_InvalidStanding T.kk_InvalidStanding_InvalidTies (cv := .ref T.X_InvalidTies) (fun u r => r) ?_
    walk_at "go"
    refine g_isA ea hdd T.xC_InvalidStanding T.kk_InvalidStanding_InvalidStanding (cv := .ref T.X_InvalidStanding) (fun u r => r) ?_
    walk_at "go"
    rename_i p1 hp1 p2 hp2
    have k1 := (Kp.refl [] G).put (o := .lst [.bl false, .bl true, .bl true]) hp1
    have k3 := k1.put (o := .lst [V.str "ties", V.str "standing", V.str "order"]) (k1.free hp2)
    refine ⟨p1, _, _, 1, .bl true, rfl, rfl, SqL.of (by walk_at "look"), rfl, rfl, rfl, rfl, (fun m z hm hz => by
      obtain rfl : m = 0 := by omega
      cases hz; rfl), ?_⟩
    walk_at "go"
    refine g_xk (k3.keep _ _ nin0 ea (ntb rfl)) T.xC_InvalidStanding T.xz_InvalidStanding.nof (k3.keep _ _ nin0 ed (ntb rfl)) rfl ?_
    walk_at "go"
    exact g_r2 (hv _ (kx.trans k3)) sh hb he fun H2 k2 => q H2 ((kx.trans k3).trans k2)
  · refine g_wYes (exm3 (exm_no T.kk_InvalidOrder_InvalidNumber T.xs_InvalidNumber) T.xe_InvalidOrder (exm_no T.kk_InvalidOrder_InvalidStanding T.xs_InvalidStanding)) fun a ha => ?_
    show tAsg (tVar 2) (gName 1) _ [x0, x1, some (.ref a), x3] H'
    walk_at "go"
    rw [show [x0, some (V.ref a), some (V.ref a), x3].set 2 none = [x0, some (V.ref a), none, x3] from rfl]
    walk_at "go"
    refine ⟨rfl, ?_⟩
    rw [show decide (V.ref a = V.non) = false by simp]
    walk_at "go"
    have ed : upd H' a (exA a (.ref T.X_InvalidOrder) (some dd)) dd = some (.xd [("index", v)]) := (upd_ne (ne_of_none hd ha)).trans hd
    have ea : upd H' a (exA a (.ref T.X_InvalidOrder) (some dd)) a = some (exA a (.ref T.X_InvalidOrder) (some dd)) := upd_same
    have hdd : ∀ d2, some dd = some d2 → ∃ fs, upd H' a (exA a (.ref T.X_InvalidOrder) (some dd)) d2 = some (.xd fs) := fun _ z => by cases z; exact ⟨_, ed⟩
    have kx : Kp [] H' (upd H' a (exA a (.ref T.X_InvalidOrder) (some dd))) := Kp.new ha
    generalize upd H' a (exA a (.ref T.X_InvalidOrder) (some dd)) = G at *
    refine g_isA ea hdd T.xC_InvalidOrder T.kk_InvalidOrder_NothingToUndo (cv := .ref T.X_NothingToUndo) (fun u r => r) ?_
    walk_at "go"
    refine g_isA ea hdd T.xC_InvalidOrder T.kk_InvalidOrder_UnknownCall (cv := .ref T.X_UnknownCall) (fun u r => r) ?_
    walk_at "go"
    refine g_isA ea hdd T.xC_InvalidOrder T.kb_InvalidOrder_ValueError (cv := .type "ValueError") (fun u r => r) ?_
    walk_at "go"
    refine g_isA ea hdd T.xC_InvalidOrder T.kk_InvalidOrder_InvalidNumber (cv := .ref T.X_InvalidNumber) (fun u r => r) ?_
    walk_at "go"
    refine g_isA ea hdd T.xC_InvalidOrder T.kk_InvalidOrder_InvalidTies (cv := .ref T.X_InvalidTies) (fun u r => r) ?_
    walk_at "go"
    refine g_isA ea hdd T.xC_InvalidOrder T.kk_InvalidOrder_InvalidStanding (cv := .ref T.X_InvalidStanding) (fun u r => r) ?_
    walk_at "go"
    rename_i p1 hp1 p2 hp2
    have k1 := (Kp.refl [] G).put (o := .lst [.bl false, .bl false, .bl true]) hp1
    have k3 := k1.put (o := .lst [V.str "ties", V.str "standing", V.str "order"]) (k1.free hp2)
    refine ⟨p1, _, _, 2, .bl true, rfl, rfl, SqL.of (by walk_at "look"), rfl, rfl, rfl, rfl, (fun m z hm hz => by
      rcases (show m = 0 ∨ m = 1 by omega) with rfl | rfl <;> (cases hz; rfl)), ?_⟩
    walk_at "go"
    refine g_xk (k3.keep _ _ nin0 ea (ntb rfl)) T.xC_InvalidOrder T.xz_InvalidOrder.nof (k3.keep _ _ nin0 ed (ntb rfl)) rfl ?_
    walk_at "go"
    exact g_r2 (hv _ (kx.trans k3)) sh hb he fun H2 k2 => q H2 ((kx.trans k3).trans k2)
end
end Ap


namespace Ap
open PySem L2 PySem.Spec PyProof.Rows
/-- v is no row of n people; w tells where: the error's index; so it stays when what is in S changes -/
def Lot (K : PySem.W.Frag) (S : List Addr) (H : Hp) (n : Nat) (v w : V) : Prop :=
  (w = .non ∧ ∃ T : String, (∀ H', Kp S H H' → TyX K H' v (.type T)) ∧ kitB T "list" = some false) ∨
  (w = .non ∧ ∃ (p : Addr) (zs : List V), v = .ref p ∧ p ∉ S ∧ H p = some (.lst zs) ∧ zs.length ≠ n) ∨
  ∃ (p : Addr) (ns : List Int) (rest : List V) (bad : V) (o : Option Int), v = .ref p ∧ p ∉ S ∧ H p = some (.lst (ns.map V.int ++ bad :: rest)) ∧ (ns.map V.int ++ bad :: rest).length = n ∧ ns.Nodup ∧ (∀ x ∈ ns, 1 ≤ x ∧ x ≤ (n : Int)) ∧ w = .int ns.length ∧
    (∀ H', Kp S H H' → Wh K H' bad o) ∧ (inI o n = false ∨ ∃ z, z ∈ ns ∧ o = some z)
/-- at p: pairs of such -/
def LotsAt (K : PySem.W.Frag) (S : List Addr) (H : Hp) (n : Nat) (vs : List V) : Prop := ∀ u ∈ vs, ∃ (t : Addr) (v w : V), u = .ref t ∧ t ∉ S ∧ H t = some (.tup [v, w]) ∧ Lot K S H n v w
theorem Lot.kp {K : PySem.W.Frag} {S : List Addr} {H H' : Hp} {n : Nat} {v w : V} (h : Lot K S H n v w) (k : Kp S H H') : Lot K S H' n v w := by
  rcases h with ⟨e, t, h1, h2⟩ | ⟨e, p, zs, e2, ns, h1, h2⟩ | ⟨p, ns, rest, bad, o, e, nS, h1, h2, h3, h4, h5, h6, h7⟩
  · exact .inl ⟨e, t, fun G g => h1 G (k.trans g), h2⟩
  · exact .inr (.inl ⟨e, p, zs, e2, ns, k.lst ns h1, h2⟩)
  · exact .inr (.inr ⟨p, ns, rest, bad, o, e, nS, k.lst nS h1, h2, h3, h4, h5, fun G g => h6 G (k.trans g), h7⟩)
theorem Lot.any {K : PySem.W.Frag} {S : List Addr} {H : Hp} {n : Nat} {v w : V} (h : Lot K S H n v w) : Lot K [] H n v w := by
  rcases h with ⟨e, t, h1, h2⟩ | ⟨e, p, zs, e2, ns, h1, h2⟩ | ⟨p, ns, rest, bad, o, e, nS, h1, h2, h3, h4, h5, h6, h7⟩
  · exact .inl ⟨e, t, fun G g => h1 G g.any, h2⟩
  · exact .inr (.inl ⟨e, p, zs, e2, nin0, h1, h2⟩)
  · exact .inr (.inr ⟨p, ns, rest, bad, o, e, nin0, h1, h2, h3, h4, h5, fun G g => h6 G g.any, h7⟩)
theorem LotsAt.kp {K : PySem.W.Frag} {S : List Addr} {H H' : Hp} {n : Nat} {vs : List V} (h : LotsAt K S H n vs) (k : Kp S H H') : LotsAt K S H' n vs := fun u hu => by
  obtain ⟨t, v, w, e, ns, h1, h2⟩ := h u hu
  exact ⟨t, v, w, e, ns, k.tup ns h1, h2.kp k⟩
theorem Lot.laid {K : PySem.W.Frag} {S : List Addr} {H : Hp} {n i m : Nat} {row : List Int} {y : V} {o : Option Int} {p : Addr} (hrow : Stand n row) (hi : i < n) (hm : m = n - 1 - i) (hp : H p = some (.lst ((row.map V.int).take i ++ [y] ++ (List.replicate m [V.non]).flatten))) (nS : p ∉ S)
    (hw : ∀ H', Kp S H H' → Wh K H' y o) (hb : inI o n = false ∨ ∃ z, z ∈ row.take i ∧ o = some z) : Lot K S H n (.ref p) (.int i) := by
  have ln := hrow.length
  have lt : (row.take i).length = i := by rw [List.length_take]; omega
  refine .inr (.inr ⟨p, row.take i, (List.replicate m [V.non]).flatten, y, o, rfl, nS, ?_, ?_, (hrow.nodup.sublist (List.take_sublist _ _)), fun z hz => up_mem.mp (hrow.mem.mp (List.mem_of_mem_take hz)), by rw [lt], hw, hb⟩)
  · rw [hp, List.map_take]; simp
  · simp [lt, hm]; omega
def spBent (K : PySem.W.Frag) : Sp := fun vs H Q _ => ∃ (rp : Addr) (n : Nat) (row : List Int), vs = [.ref rp] ∧ H rp = some (.lst (row.map V.int)) ∧ 3 ≤ n ∧ n ≤ 40 ∧ Stand n row ∧ ∀ lp ls H', H lp = none → Kp [] H H' → H' lp = some (.lst ls) → ls.length ≤ 300 → LotsAt K [] H' n ls → Q (.ref lp) H'
section
variable {P : Program} {w : World} {K : PySem.W.Frag} {mg : Str → Option Value} {base : Heap}
theorem ok_Lbent (T : Txt P K mg base) : FnG P w K mg base CX0 3 T.a_Lbent T.fd_Lbent ["_law_row"] (spBent K) := by
  refine fnG_of0 T.F_Lbent sc_Lbent (fun vs H Q E h => ?_) (fun cdv A outer s H vs Q E hcd hr gd h => ?_)
  · obtain ⟨rp, n, row, rfl, _⟩ := h
    rfl
  · obtain ⟨rp, n, row, rfl, hp, n3, n40, hrow, q⟩ := h
    refine ⟨_, (pss_cons (ps_set (i := 1) sc_Lbent.nd rfl (Or.inl rfl) (pe_callB cr_len (by rfl) T.n_len (by decide +kernel) (pa_cons (pv 0) pa_nil)))
    (pss_cons (ps_setLc (i := 3) (own := [("_law_thing", 2)]) (g := gName 2) (tt := tYes) rfl sc_Lbent.nd rfl rfl (sw_true rfl rfl rfl (by decide +kernel)) (pi_list (pe_lst (pa_cons pe_non (pa_cons (pe_tup pa_nil) (pa_cons (pe_callTy call_tuple_of (by rfl) T.n_tuple (by decide +kernel) (pa_cons (pv 0) pa_nil)) (pa_cons pe_dnewK (pa_cons (pe_op op_smul pe_str (pv 1)) (pa_cons pe_int (pa_cons pe_bl (pa_cons (pe_op op_cat (pv 0) (pe_lst (pa_cons (pe_op op_add (pv 1) pe_int) pa_nil))) (pa_cons (pe_slice sl_list (pv 0) (po_some pe_int) po_none) pa_nil))))))))))) (blkOk_by (N := ["_law_row", "_law_many", "_law_thing", "_law_lots", "_law_at"]) (sc := defScope s_Lbent) (by decide +kernel)) (fun _ _ _ _ _ => (pg_name (i := 2) sc_Lbent.nd rfl (Or.inl rfl))) (fun _ _ _ _ _ => pts_nil) (fun _ _ _ _ _ => (pe_tup (pa_cons (pv 2) (pa_cons pe_non pa_nil)))))
    (Evl.pss_cut (ps_for PassesOwn.never rfl (pi_range1 (by rfl) T.n_range (pa_cons (pv 1) pa_nil)) (pg_name (i := 4) sc_Lbent.nd rfl (Or.inl rfl))
      (pss_cons (ps_for PassesOwn.never rfl (pi_list (pe_lst (pa_cons pe_non (pa_cons pe_bl (pa_cons pe_int (pa_cons (pe_op op_add (pv 1) pe_int) (pa_cons pe_str (pa_cons (pe_lst (pa_cons pe_int pa_nil)) pa_nil)))))))) (pg_name (i := 2) sc_Lbent.nd rfl (Or.inl rfl))
        (pss_one (ps_expr (pe_bm PySem.F.plainAttrs_list PySem.F.slot_list_append PySem.F.type_list_append mt_append (pv 3) (pa_cons (pe_tup (pa_cons (pe_op op_cat (pe_op op_cat (pe_slice sl_list (pv 0) po_none (po_some (pv 4))) (pe_lst (pa_cons (pv 2) pa_nil))) (pe_op op_rep (pe_lst (pa_cons pe_non pa_nil)) (pe_op op_sub (pe_op op_sub (pv 1) pe_int) (pv 4)))) (pa_cons (pv 4) pa_nil))) pa_nil)))))
      (pss_one (ps_if (pt_cmpR op_gt (pv 4) pe_int (nomark _))
        (pss_one (ps_expr (pe_bm PySem.F.plainAttrs_list PySem.F.slot_list_append PySem.F.type_list_append mt_append (pv 3) (pa_cons (pe_tup (pa_cons (pe_op op_cat (pe_op op_cat (pe_slice sl_list (pv 0) po_none (po_some (pv 4))) (pe_lst (pa_cons (pe_ix ix_list (pv 0) pe_int (fun _ _ => rfl)) pa_nil))) (pe_op op_rep (pe_lst (pa_cons pe_non pa_nil)) (pe_op op_sub (pe_op op_sub (pv 1) pe_int) (pv 4)))) (pa_cons (pv 4) pa_nil))) pa_nil))))
        pss_nil))))
    (pss_one (ps_ret (pv 3)))))), ?_⟩
    rw [show start ["_law_row", "_law_many", "_law_thing", "_law_lots", "_law_at"] [.ref rp] = [some (.ref rp), none, none, none, none] from rfl]
    walk_at "go"
    rename_i e0 he0
    have k0 : Kp [] H (upd H e0 (.tup [])) := (Kp.refl _ _).put he0
    refine ⟨rp, row.map V.int, rfl, .inl ⟨SqL.of (k0.lst nin0 hp), fun t0 ht0 => ?_⟩⟩
    walk_at "go"
    have k1 := k0.put (o := .tup (row.map V.int)) (k0.free ht0)
    refine fun d0 hd0 => ?_
    walk_at "go"
    refine ⟨_, _, rfl, rfl, mulOk_of (by rw [List.length_map, hrow.length]; omega) (by rw [List.length_map, hrow.length]; omega) (by decide), ?_⟩
    walk_at "go"
    rename_i o0 ho0
    have ln := hrow.length
    have k2 := k1.put (o := .dK []) (k1.free hd0)
    have k3 := k2.put (o := .lst [.int (((row.map V.int).length : Int) + 1)]) (k2.free ho0)
    have et : upd (upd (upd (upd H e0 (HO.tup [])) t0 (HO.tup (row.map V.int))) d0 (HO.dK [])) o0 (HO.lst [V.int (((row.map V.int).length : Int) + 1)]) t0 = some (.tup (row.map V.int)) := by walk_at "look"
    have ee : upd (upd (upd (upd H e0 (HO.tup [])) t0 (HO.tup (row.map V.int))) d0 (HO.dK [])) o0 (HO.lst [V.int (((row.map V.int).length : Int) + 1)]) e0 = some (.tup []) := by walk_at "look"
    have ed : upd (upd (upd (upd H e0 (HO.tup [])) t0 (HO.tup (row.map V.int))) d0 (HO.dK [])) o0 (HO.lst [V.int (((row.map V.int).length : Int) + 1)]) d0 = some (.dK []) := by walk_at "look"
    have eo : upd (upd (upd (upd H e0 (HO.tup [])) t0 (HO.tup (row.map V.int))) d0 (HO.dK [])) o0 (HO.lst [V.int (((row.map V.int).length : Int) + 1)]) o0 = some (.lst [V.int (((row.map V.int).length : Int) + 1)]) := upd_same
    generalize upd (upd (upd (upd H e0 (HO.tup [])) t0 (HO.tup (row.map V.int))) d0 (HO.dK [])) o0 (HO.lst [V.int (((row.map V.int).length : Int) + 1)]) = G at *
    clear k0 k1 k2 hd0 ht0 he0 ho0
    refine g_cat (k3.lst nin0 hp) eo (triv_sz (by rw [List.length_map, ln]; simp; omega)) fun c hc => ?_
    walk_at "go"
    rename_i c2 hc2 l9 hl9
    have j1 := (Kp.refl [] G).put (o := .lst (row.map V.int ++ [.int (((row.map V.int).length : Int) + 1)])) hc
    have j2 := j1.put (o := .lst (cutV (row.map V.int) (some 1) none)) (j1.free hc2)
    have ec : upd (upd G c (.lst (row.map V.int ++ [.int (((row.map V.int).length : Int) + 1)]))) c2 (.lst (cutV (row.map V.int) (some 1) none)) c = some (.lst (row.map V.int ++ [.int (((row.map V.int).length : Int) + 1)])) := by walk_at "look"
    have ec2 : upd (upd G c (.lst (row.map V.int ++ [.int (((row.map V.int).length : Int) + 1)]))) c2 (.lst (cutV (row.map V.int) (some 1) none)) c2 = some (.lst (cutV (row.map V.int) (some 1) none)) := upd_same
    generalize upd (upd G c (.lst (row.map V.int ++ [.int (((row.map V.int).length : Int) + 1)]))) c2 (.lst (cutV (row.map V.int) (some 1) none)) = G2 at *
    have m0 := k3.trans j2
    have each : ∀ S : List Addr, (∀ b ∈ S, G2 b = none) → ∀ v ∈ [V.non, .ref e0, .ref t0, .ref d0, .str (Txt.mul "1" ((row.map V.int).length : Int)), .int 5, .bl true, .ref c, .ref c2], Lot K S G2 n v .non := by
      intro S hS v hv
      have oS : ∀ {b : Addr} {o : HO}, G2 b = some o → b ∉ S := fun e z => by rw [hS _ z] at e; cases e
      simp only [List.mem_cons, List.not_mem_nil, or_false] at hv
      rcases hv with rfl | rfl | rfl | rfl | rfl | rfl | rfl | rfl | rfl
      · exact .inl ⟨rfl, "NoneType", fun _ _ => .base .non, by decide +kernel⟩
      · exact .inl ⟨rfl, "tuple", fun _ k => .base (.tup (k.tup (oS (j2.tup nin0 ee)) (j2.tup nin0 ee))), by decide +kernel⟩
      · exact .inl ⟨rfl, "tuple", fun _ k => .base (.tup (k.tup (oS (j2.tup nin0 et)) (j2.tup nin0 et))), by decide +kernel⟩
      · exact .inl ⟨rfl, "dict", fun _ k => .base (.dK (k.keep _ _ (oS (j2.keep _ _ nin0 ed (fun _ z => nomatch z))) (j2.keep _ _ nin0 ed (fun _ z => nomatch z)) (fun _ z => nomatch z))), by decide +kernel⟩
      · exact .inl ⟨rfl, "str", fun _ _ => .base (.str _), by decide +kernel⟩
      · exact .inl ⟨rfl, "int", fun _ _ => .base (.int _), by decide +kernel⟩
      · exact .inl ⟨rfl, "bool", fun _ _ => .base (.bl _), by decide +kernel⟩
      · exact .inr (.inl ⟨rfl, c, _, rfl, oS ec, ec, by simp [ln]⟩)
      · exact .inr (.inl ⟨rfl, c2, _, rfl, oS ec2, ec2, by rw [cut_from (i := 1) (k := 1) rfl]; simp [ln]; omega⟩)
    generalize hI : [V.non, .ref e0, .ref t0, .ref d0, .str (Txt.mul "1" ((row.map V.int).length : Int)), .int 5, .bl true, .ref c, .ref c2] = items at *
    have l9l : items.length = 9 := by rw [← hI]; rfl
    have e9 : upd G2 l9 (.lst items) l9 = some (.lst items) := upd_same
    have j9 := (Kp.refl [] G2).put (o := .lst items) hl9
    have each : ∀ S : List Addr, (∀ b ∈ S, upd G2 l9 (.lst items) b = none) → ∀ v ∈ items, Lot K S (upd G2 l9 (.lst items)) n v .non := fun S hS v hv => (each S (fun b hb => j9.free (hS b hb)) v hv).kp j9.any
    have m9 := m0.trans j9
    generalize upd G2 l9 (.lst items) = G3 at *
    refine g_lc (walk_list (xs := items)) (w0 := [some (.ref rp), some (.int ((row.map V.int).length : Int)), none, none, none]) rfl fun D hD => ⟨fun j G' => ∃ zs : List V, zs.length = j ∧ G' D = some (.lst zs) ∧ Kp [] G3 G' ∧ LotsAt K [D] G' n zs,
      ⟨[], rfl, upd_same, Kp.new hD, fun _ z => (nomatch z)⟩, fun j G' _ h => ?_, ?_, ?_⟩
    · obtain ⟨_, _, _, h, _⟩ := h
      exact SqL.of (h.lst nin0 e9)
    · rintro j y G1 G' hj ⟨zs, lz, hG, k, hL⟩ ⟨rfl, hy⟩
      have hm := (each [D] (fun b hb => by rw [List.mem_singleton.mp hb]; exact hD) y (List.mem_of_getElem? hy)).kp k.any
      rw [l9l] at hj
      walk_at "go"
      refine g_kLg rfl ?_
      walk_at "go"
      rename_i u hu
      have uD : u ∉ [D] := nin1 fun z => by rw [z, hG] at hu; cases hu
      have ku : Kp [] G' (upd G' u (.tup [y, .non])) := (Kp.refl _ _).put hu
      have hD2 : (upd G' u (.tup [y, .non])) D = some (.lst zs) := ku.lst nin0 hG
      have kD : Kp [D] (upd G' u (.tup [y, .non])) (upd (upd G' u (.tup [y, .non])) D (.lst (zs ++ [.ref u]))) := (Kp.refl _ _).mut (by simp) hD2 (ntb rfl)
      refine g_kLe hD2 (triv_szl (by omega)) ⟨zs ++ [.ref u], by rw [List.length_append, lz]; rfl, upd_same, (k.trans ku).put hD, fun a ha => ?_⟩
      rcases List.mem_append.mp ha with ha | ha
      · exact (hL.kp (ku.any.trans kD)) a ha
      · obtain rfl := List.mem_singleton.mp ha
        exact ⟨u, y, .non, rfl, uD, kD.tup uD upd_same, hm.kp (ku.any.trans kD)⟩
    rintro H1 ⟨zs, lz, h1, k1, hL⟩
    rw [l9l] at lz
    have mH := m9.trans k1
    have D0 : H D = none := m9.free hD
    have Da0 : G3 D = none := hD
    clear each
    have ll : ((row.map V.int).length : Int) = n := by rw [List.length_map, ln]
    rw [ll]
    walk_at "go"
    refine g_cut (fun σ' H' => ∃ (x y : Option V) (ls : List V), σ' = [some (.ref rp), some (.int (n : Int)), x, some (.ref D), y] ∧ H' D = some (.lst ls) ∧ ls.length ≤ 300 ∧ Kp [] G3 H' ∧ LotsAt K [D] H' n ls) ?_ ?_
    rotate_left
    · rintro σ' H' ⟨x, y, ls, rfl, e, le, k, hL⟩
      walk_at "go"
      exact q D ls H' D0 (m9.trans k) e le fun u hu => by
        obtain ⟨t, v, w, e1, _, e3, e4⟩ := hL u hu
        exact ⟨t, v, w, e1, nin0, e3, e4.any⟩
    walk_at "go"
    refine g_forR (n := n) (fun i σ' H' => ∃ (x y : Option V) (ls : List V), σ' = [some (.ref rp), some (.int (n : Int)), x, some (.ref D), y] ∧ H' D = some (.lst ls) ∧ ls.length ≤ 9 + 7 * i ∧ Kp [] G3 H' ∧ LotsAt K [D] H' n ls) ⟨_, _, zs, rfl, h1, by omega, k1, hL⟩ (fun i σ' H' hi h => ?_) (fun σ' H' h => by obtain ⟨x, y, ls, e, h, le, r⟩ := h; exact ⟨x, y, ls, e, h, by omega, r⟩)
    obtain ⟨x, y, ls, rfl, hd, le, k, hL⟩ := h
    walk_at "go"
    rename_i q1 hq1 il hil
    generalize hT6 : [V.non, V.bl true, V.int 0, V.int ((n : Int) + 1), V.str "1", V.ref q1] = things at *
    have l6 : things.length = 6 := by rw [← hT6]; rfl
    have ilD : il ≠ D := fun z => by rw [z, ((Kp.refl [] H').put hq1).lst nin0 hd] at hil; cases hil
    have qD : q1 ≠ D := fun z => by rw [z, hd] at hq1; cases hq1
    have kq : Kp [] H' (upd H' q1 (.lst [V.int 1])) := (Kp.refl _ _).put hq1
    have kA : Kp [] H' (upd (upd H' q1 (.lst [V.int 1])) il (.lst things)) := kq.put (kq.free hil)
    have hrp := m9.lst nin0 hp
    clear each m0 mH k1 h1 k3 et ee ed eo hc hc2 hl9 j1 j2 ec ec2 e9 j9
    refine g_forL (xs := things) (fun j σ' H' => ∃ (x : Option V) (ls : List V), σ' = [some (.ref rp), some (.int (n : Int)), x, some (.ref D), some (.int ((0 : Int) + i))] ∧ H' D = some (.lst ls) ∧ ls.length ≤ 9 + 7 * i + j ∧ Kp [] G3 H' ∧ LotsAt K [D] H' n ls ∧ H' il = some (.lst things) ∧ H' q1 = some (.lst [V.int 1]))
      ⟨_, ls, rfl, by walk_at "look", by omega, k.trans kA, hL.kp kA.any, upd_same, by walk_at "look"⟩ (fun j σ' H' _ h => ?_) (fun j y σ' H' hj h => ?_) (fun σ' H' h => ?_)
    · obtain ⟨x, ls, rfl, _, _, _, _, e, _⟩ := h
      exact SqL.of e
    · obtain ⟨x, ls, rfl, hd, le, k, hL, hil, hq1⟩ := h
      have jl : j < 6 := by rw [← l6]; exact (List.getElem?_eq_some_iff.mp hj).1
      have bad : ∃ o, (∀ G', Kp [D] H' G' → Wh K G' y o) ∧ inI o n = false := by
        have hm := List.mem_of_getElem? hj
        rw [← hT6] at hm
        simp only [List.mem_cons, List.not_mem_nil, or_false] at hm
        rcases hm with rfl | rfl | rfl | rfl | rfl | rfl
        · exact ⟨none, fun _ _ => .oth (.base .non) (by decide +kernel), rfl⟩
        · exact ⟨none, fun _ _ => .bl _, rfl⟩
        · exact ⟨_, fun _ _ => .int _, by simp [inI]⟩
        · exact ⟨_, fun _ _ => .int _, by simp [inI]; omega⟩
        · exact ⟨none, fun _ _ => .oth (.base (.str _)) (by decide +kernel), rfl⟩
        · exact ⟨none, fun _ k2 => .oth (.base (.lst (k2.lst (nin1 qD) hq1))) (by decide +kernel), rfl⟩
      obtain ⟨o, hw, hb⟩ := bad
      walk_at "go"
      rename_i q2 hq2 p2 hp2
      rw [cut_to (xs := row.map V.int) (i := (0 : Int) + i) (k := i) (by omega) (by rw [List.length_map, ln]; omega)] at *
      have lt : ((row.map V.int).take i).length = i := by rw [List.length_take, List.length_map, ln]; omega
      have s1 : Kp [] H' (upd H' q2 (.lst ((row.map V.int).take i))) := (Kp.refl _ _).put hq2
      have s2 := s1.put (o := .lst [y]) (s1.free hp2)
      refine g_cat (by walk_at "look") upd_same (triv_sz (by rw [lt]; simp; omega)) fun c3 hc3 => ?_
      have s3 := s2.put (o := .lst ((row.map V.int).take i ++ [y])) (s2.free hc3)
      have e3 : (upd (upd (upd H' q2 (.lst ((row.map V.int).take i))) p2 (.lst [y])) c3 (.lst ((row.map V.int).take i ++ [y]))) c3 = some (.lst ((row.map V.int).take i ++ [y])) := upd_same
      generalize (upd (upd (upd H' q2 (.lst ((row.map V.int).take i))) p2 (.lst [y])) c3 (.lst ((row.map V.int).take i ++ [y]))) = G4 at *
      clear s1 s2 hq2 hp2 hc3
      walk_at "go"
      rename_i p4 hp4
      have s4 : Kp [] G4 (upd G4 p4 (.lst [.non])) := (Kp.refl _ _).put hp4
      refine ⟨p4, _, _, rfl, rfl, upd_same, by omega, by omega, triv_sz (by simp; omega), fun p5 hp5 => ?_⟩
      have s5 := s4.put (o := .lst (List.replicate ((n : Int) - 1 - (0 + i)).toNat [V.non]).flatten) (s4.free hp5)
      walk_at "go"
      refine g_cat (by walk_at "look") upd_same (triv_sz (by simp [lt]; omega)) fun c6 hc6 => ?_
      have c6D : c6 ≠ D := fun z => by rw [z, (s3.trans s5).lst nin0 hd] at hc6; cases hc6
      have s6 := s3.trans (s5.put (o := .lst ((row.map V.int).take i ++ [y] ++ (List.replicate ((n : Int) - 1 - (0 + i)).toNat [V.non]).flatten)) (s5.free hc6))
      have e6 : (upd (upd (upd G4 p4 (.lst [.non])) p5 (.lst (List.replicate ((n : Int) - 1 - (0 + i)).toNat [V.non]).flatten)) c6 (.lst ((row.map V.int).take i ++ [y] ++ (List.replicate ((n : Int) - 1 - (0 + i)).toNat [V.non]).flatten))) c6 = some (.lst ((row.map V.int).take i ++ [y] ++ (List.replicate ((n : Int) - 1 - (0 + i)).toNat [V.non]).flatten)) := upd_same
      generalize (upd (upd (upd G4 p4 (.lst [.non])) p5 (.lst (List.replicate ((n : Int) - 1 - (0 + i)).toNat [V.non]).flatten)) c6 (.lst ((row.map V.int).take i ++ [y] ++ (List.replicate ((n : Int) - 1 - (0 + i)).toNat [V.non]).flatten))) = G6 at *
      clear s3 s4 s5 e3 hp4 hp5 hc6
      have hd6 := s6.lst nin0 hd
      walk_at "go"
      rename_i t7 ht7
      have s7 := s6.put (o := .tup [.ref c6, .int (0 + (i : Int))]) (s6.free ht7)
      have s8 : Kp [D] (upd G6 t7 (.tup [.ref c6, .int (0 + (i : Int))])) (upd (upd G6 t7 (.tup [.ref c6, .int (0 + (i : Int))])) D (.lst (ls ++ [.ref t7]))) := (Kp.refl _ _).mut (by simp) (s7.lst nin0 hd) (ntb rfl)
      have tD : t7 ∉ [D] := nin1 fun z => by rw [z, hd6] at ht7; cases ht7
      have s9 := s7.any.trans s8
      refine g_append (s7.lst nin0 hd) (triv_szl (by omega)) ?_
      walk_at "go"
      refine ⟨_, ls ++ [.ref t7], rfl, upd_same, by rw [List.length_append, List.length_singleton]; omega, (k.trans s7).put Da0 (NC.some (s7.lst nin0 hd) rfl), fun a ha => ?_, s9.lst (nin1 ilD) hil, s9.lst (nin1 qD) hq1⟩
      rcases List.mem_append.mp ha with ha | ha
      · exact hL.kp s9 a ha
      · obtain rfl := List.mem_singleton.mp ha
        refine ⟨t7, .ref c6, .int (0 + (i : Int)), rfl, tD, s8.tup tD upd_same, ?_⟩
        rw [Int.zero_add]
        have e8 := s8.lst (nin1 c6D) ((upd_ne (ne_of_none e6 ht7)).trans e6)
        rw [Int.zero_add] at e8
        exact Lot.laid hrow hi (by omega) e8 (nin1 c6D) (fun G' g => hw G' (s9.trans (by rw [Int.zero_add]; exact g))) (.inl hb)
    · obtain ⟨x, ls, rfl, hd, le, k, hL, -, -⟩ := h
      rw [l6] at le
      obtain ⟨z0, hr0⟩ : ∃ z0, row[0]? = some z0 := ⟨_, List.getElem?_eq_getElem (by omega)⟩
      have hr0' : (row.map V.int)[0]? = some (.int z0) := by rw [List.getElem?_map, hr0]; rfl
      walk_at "go"
      by_cases i0 : 0 < i
      case neg =>
        refine g_kDX (by omega) ?_
        walk_at "go"
        exact ⟨_, _, ls, rfl, hd, by omega, k, hL⟩
      have hz0 : z0 ∈ row.take i := by
        obtain ⟨j, rfl⟩ : ∃ j, i = j + 1 := ⟨i - 1, by omega⟩
        cases row with
        | nil => cases hr0
        | cons a r => cases hr0; exact List.mem_cons_self
      refine g_kDY (by omega) ?_
      walk_at "go"
      refine g_ixL (Kp.lst ((Kp.refl [] _).put ‹_›) nin0 (k.lst nin0 hrp)) (atI_of (n := 0) rfl hr0') ?_
      walk_at "go"
      rename_i q2 hq2 p2 hp2
      rw [cut_to (xs := row.map V.int) (i := (0 : Int) + i) (k := i) (by omega) (by rw [List.length_map, ln]; omega)] at *
      have lt : ((row.map V.int).take i).length = i := by rw [List.length_take, List.length_map, ln]; omega
      have s1 : Kp [] H' (upd H' q2 (.lst ((row.map V.int).take i))) := (Kp.refl _ _).put hq2
      have s2 := s1.put (o := .lst [V.int z0]) (s1.free hp2)
      refine g_cat (by walk_at "look") upd_same (triv_sz (by rw [lt]; simp; omega)) fun c3 hc3 => ?_
      have s3 := s2.put (o := .lst ((row.map V.int).take i ++ [V.int z0])) (s2.free hc3)
      have e3 : (upd (upd (upd H' q2 (.lst ((row.map V.int).take i))) p2 (.lst [V.int z0])) c3 (.lst ((row.map V.int).take i ++ [V.int z0]))) c3 = some (.lst ((row.map V.int).take i ++ [V.int z0])) := upd_same
      generalize (upd (upd (upd H' q2 (.lst ((row.map V.int).take i))) p2 (.lst [V.int z0])) c3 (.lst ((row.map V.int).take i ++ [V.int z0]))) = G4 at *
      clear s1 s2 hq2 hp2 hc3
      walk_at "go"
      rename_i p4 hp4
      have s4 : Kp [] G4 (upd G4 p4 (.lst [.non])) := (Kp.refl _ _).put hp4
      refine ⟨p4, _, _, rfl, rfl, upd_same, by omega, by omega, triv_sz (by simp; omega), fun p5 hp5 => ?_⟩
      have s5 := s4.put (o := .lst (List.replicate ((n : Int) - 1 - (0 + i)).toNat [V.non]).flatten) (s4.free hp5)
      walk_at "go"
      refine g_cat (by walk_at "look") upd_same (triv_sz (by simp [lt]; omega)) fun c6 hc6 => ?_
      have c6D : c6 ≠ D := fun z => by rw [z, (s3.trans s5).lst nin0 hd] at hc6; cases hc6
      have s6 := s3.trans (s5.put (o := .lst ((row.map V.int).take i ++ [V.int z0] ++ (List.replicate ((n : Int) - 1 - (0 + i)).toNat [V.non]).flatten)) (s5.free hc6))
      have e6 : (upd (upd (upd G4 p4 (.lst [.non])) p5 (.lst (List.replicate ((n : Int) - 1 - (0 + i)).toNat [V.non]).flatten)) c6 (.lst ((row.map V.int).take i ++ [V.int z0] ++ (List.replicate ((n : Int) - 1 - (0 + i)).toNat [V.non]).flatten))) c6 = some (.lst ((row.map V.int).take i ++ [V.int z0] ++ (List.replicate ((n : Int) - 1 - (0 + i)).toNat [V.non]).flatten)) := upd_same
      generalize (upd (upd (upd G4 p4 (.lst [.non])) p5 (.lst (List.replicate ((n : Int) - 1 - (0 + i)).toNat [V.non]).flatten)) c6 (.lst ((row.map V.int).take i ++ [V.int z0] ++ (List.replicate ((n : Int) - 1 - (0 + i)).toNat [V.non]).flatten))) = G6 at *
      clear s3 s4 s5 e3 hp4 hp5 hc6
      have hd6 := s6.lst nin0 hd
      walk_at "go"
      rename_i t7 ht7
      have s7 := s6.put (o := .tup [.ref c6, .int (0 + (i : Int))]) (s6.free ht7)
      have s8 : Kp [D] (upd G6 t7 (.tup [.ref c6, .int (0 + (i : Int))])) (upd (upd G6 t7 (.tup [.ref c6, .int (0 + (i : Int))])) D (.lst (ls ++ [.ref t7]))) := (Kp.refl _ _).mut (by simp) (s7.lst nin0 hd) (ntb rfl)
      have tD : t7 ∉ [D] := nin1 fun z => by rw [z, hd6] at ht7; cases ht7
      have s9 := s7.any.trans s8
      refine g_append (s7.lst nin0 hd) (triv_szl (by omega)) ?_
      walk_at "go"
      refine ⟨_, _, ls ++ [.ref t7], rfl, upd_same, by rw [List.length_append, List.length_singleton]; omega, (k.trans s7).put Da0 (NC.some (s7.lst nin0 hd) rfl), fun a ha => ?_⟩
      rcases List.mem_append.mp ha with ha | ha
      · exact hL.kp s9 a ha
      · obtain rfl := List.mem_singleton.mp ha
        refine ⟨t7, .ref c6, .int (0 + (i : Int)), rfl, tD, s8.tup tD upd_same, ?_⟩
        rw [Int.zero_add]
        have e8 := s8.lst (nin1 c6D) ((upd_ne (ne_of_none e6 ht7)).trans e6)
        rw [Int.zero_add] at e8
        exact Lot.laid hrow hi (by omega) e8 (nin1 c6D) (fun _ _ => .int z0) (.inr ⟨z0, hz0, rfl⟩)
end
end Ap


namespace Ap
open PySem L2 PySem.Spec PyProof.Rows
/-- a thing: what it is as a number, and as data, whatever becomes of what is in S -/
structure Thing (K : PySem.W.Frag) (S : List Addr) (H : Hp) (y : V) (o : Option Int) (x : PyData) : Prop where
  wh : ∀ G, Kp S H G → Wh K G y o
  dp : ∀ G, Kp S H G → DpE K G y x
  sh : Shw x 30 3
theorem Thing.kp {K : PySem.W.Frag} {S : List Addr} {H H' : Hp} {y : V} {o : Option Int} {x : PyData} (h : Thing K S H y o x) (k : Kp S H H') : Thing K S H' y o x := ⟨fun G g => h.wh G (k.trans g), fun G g => h.dp G (k.trans g), h.sh⟩
theorem shw_two {l : Str} {x : PyData} (h : Shw x 30 3) (hl : Shw (.str l) 30 3) : Shw (.list [.str l, x]) ((30 + 2) * 2 + 2) (3 + 1) := Shw.list (fun y hy => by
  simp only [List.mem_cons, List.not_mem_nil, or_false] at hy
  rcases hy with rfl | rfl
  · exact hl
  · exact h) (Nat.le_refl _)
theorem shw_t (l : Str) (h : l = "call" ∨ l = "figure" ∨ l = "ties" ∨ l = "standing" ∨ l = "order") : Shw (.str l) 30 3 := by
  rcases h with rfl | rfl | rfl | rfl | rfl <;> exact ⟨by decide +kernel, by decide +kernel, by decide⟩
theorem shw_non : Shw .none 30 3 := ⟨by decide +kernel, by decide +kernel, by decide⟩
section
variable {K : PySem.W.Frag} {S : List Addr} {H : Hp}
theorem thing_non : Thing K S H .non none .none := ⟨fun _ _ => .oth (.base .non) (by decide +kernel), fun _ _ => .inl .non, shw_non⟩
theorem thing_bl (b : Bool) : Thing K S H (.bl b) none (.bool b) := ⟨fun _ _ => .bl _, fun _ _ => .inl (.bl b), (Shw.bool b).grow (by decide) (by decide)⟩
theorem thing_int (i : Int) (h : Shw (.int i) 30 3) : Thing K S H (.int i) (some i) (.int i) := ⟨fun _ _ => .int i, fun _ _ => .inl (.int i), h⟩
theorem thing_str (x : Str) (h : Shw (.str x) 30 3) : Thing K S H (.str x) none (.str x) := ⟨fun _ _ => .oth (.base (.str _)) (by decide +kernel), fun _ _ => .inl (.str x), h⟩
theorem thing_one {p : Addr} {i : Int} (e : H p = some (.lst [.int i])) (n : p ∉ S) (h : Shw (.list [.int i]) 30 3) : Thing K S H (.ref p) none (.list [.int i]) := ⟨fun _ k => .oth (.base (.lst (k.lst n e))) (by decide +kernel), fun _ k => .inl (.lst (SqL.of (k.lst n e)) (.cons (.int i) .nil)), h⟩
theorem thing_dic {p : Addr} (e : H p = some (.dK [])) (n : p ∉ S) : Thing K S H (.ref p) none (.dict []) := ⟨fun _ k => .oth (.base (.dK (k.keep _ _ n e (ntb rfl)))) (by decide +kernel), fun _ k => .inr ⟨p, rfl, k.keep _ _ n e (ntb rfl), rfl⟩, ⟨by decide +kernel, by decide +kernel, by decide⟩⟩
theorem thing_tup {p : Addr} {i : Int} (e : H p = some (.tup [.int i])) (n : p ∉ S) (h : Shw (.tuple [.int i]) 30 3) : Thing K S H (.ref p) none (.tuple [.int i]) := ⟨fun _ k => .oth (.base (.tup (k.tup n e))) (by decide +kernel), fun _ k => .inl (.tup (SqT.of (k.tup n e)) (.cons (.int i) .nil)), h⟩
end
theorem CauE.mk {K : PySem.W.Frag} {H : Hp} {N I S O U Z C d : Addr} {f l : Str} {y : V} {x : PyData} {Q : VK} (hm : (C, f, l) ∈ [(U, ("number" : Str), ("call" : Str)), (N, "number", "figure"), (I, "index", "ties"), (S, "index", "standing"), (O, "index", "order")])
    (hd : H d = none) (ht : ∀ G, Kp [] H G → DpE K G y x) (sh : Shw x 30 3) (q : ∀ G, Kp [] H G → Q (.str (PyData.list [.str l, x]).shown) G) : CauE K N I S O U Z Q (.ref C) (some d) (upd H d (.xd [(f, y)])) := by
  have k : Kp [] H (upd H d (.xd [(f, y)])) := Kp.new hd
  refine .inr ⟨C, d, f, l, y, x, _, _, hm, rfl, rfl, upd_same, fun G g => ht G (k.trans g), shw_two sh (shw_t l ?_), by decide, by decide, fun G g => q G (k.trans g)⟩
  simp only [List.mem_cons, Prod.mk.injEq, List.not_mem_nil, or_false] at hm
  rcases hm with ⟨_, _, h⟩ | ⟨_, _, h⟩ | ⟨_, _, h⟩ | ⟨_, _, h⟩ | ⟨_, _, h⟩ <;> simp [h]
theorem nt_inv {H : Hp} {p : Addr} {ts : List Tie} (h : Nt H (.ref p) ts) : ∃ xs, H p = some (.lst xs) ∧ DaAll (fun _ => True) H xs (ts.map tieD) := by
  cases h with
  | lst _ e d => exact ⟨_, e, d⟩
theorem BadTie.kp {K : PySem.W.Frag} {H H' : Hp} {n : Nat} {v : V} (h : BadTie K H n v) (k : Kp [] H H') : BadTie K H' n v := by
  cases h with
  | notl t q => exact .notl (fun G g => t G (k.trans g)) q
  | len h l => exact .len (k.lst nin0 h) l
  | out h a b f => exact .out (k.lst nin0 h) a b f
  | same h a b => exact .same (k.lst nin0 h) a b
theorem Lot.standing {K : PySem.W.Frag} {H : Hp} {n : Nat} {v w : V} {N : Addr} {E : XK} {Q : VK} (h : Lot K [] H n v w) (n40 : n ≤ 40) (q : ∀ H' d, Kp [] H H' → H' d = none → E (.ref N) (some d) (upd H' d (.xd [("index", w)]))) {H' : Hp} (k : Kp [] H H') : spStandingX K N [.int n, v] H' Q E := by
  rcases h with ⟨rfl, t, h1, h2⟩ | ⟨rfl, p, zs, rfl, _, h1, h2⟩ | ⟨p, ns, rest, bad, o, rfl, _, h1, h2, h3, h4, rfl, h6, h7⟩
  · exact .inl ⟨n, v, t, rfl, h1 _ k, h2, fun d hd => q H' d k hd⟩
  · exact .inr (.inl ⟨n, p, zs, rfl, k.lst nin0 h1, h2, fun d hd => q H' d k hd⟩)
  · exact .inr (.inr ⟨n, p, ns, rest, bad, o, rfl, k.lst nin0 h1, h2, n40, h3, h4, fun G g => h6 G (k.trans g), h7, fun G d g hd => q G d (k.trans g) hd⟩)
theorem Lot.order {K : PySem.W.Frag} {H : Hp} {n : Nat} {v w : V} {N : Addr} {E : XK} {Q : VK} (h : Lot K [] H n v w) (n40 : n ≤ 40) (q : ∀ H' d, Kp [] H H' → H' d = none → E (.ref N) (some d) (upd H' d (.xd [("index", w)]))) {H' : Hp} (k : Kp [] H H') : spOrderX K N [v, .int n] H' Q E := by
  rcases h with ⟨rfl, t, h1, h2⟩ | ⟨rfl, p, zs, rfl, _, h1, h2⟩ | ⟨p, ns, rest, bad, o, rfl, _, h1, h2, h3, h4, rfl, h6, h7⟩
  · exact .inl ⟨n, v, t, rfl, h1 _ k, h2, fun d hd => q H' d k hd⟩
  · exact .inr (.inl ⟨n, p, zs, rfl, k.lst nin0 h1, h2, fun d hd => q H' d k hd⟩)
  · exact .inr (.inr ⟨n, p, ns, rest, bad, o, rfl, k.lst nin0 h1, h2, n40, h3, h4, fun G g => h6 G (k.trans g), h7, fun G d g hd => q G d (k.trans g) hd⟩)
theorem Lot.thing {K : PySem.W.Frag} {H : Hp} {n : Nat} {v w : V} (h : Lot K [] H n v w) (n40 : n ≤ 40) : ∃ o x, ∀ G, Thing K [] G w o x := by
  rcases h with ⟨rfl, _⟩ | ⟨rfl, _⟩ | ⟨p, ns, rest, bad, o, rfl, _, h1, h2, _, _, rfl, _⟩
  · exact ⟨_, _, fun _ => thing_non⟩
  · exact ⟨_, _, fun _ => thing_non⟩
  · have : ns.length < 100 := by rw [List.length_append, List.length_map, List.length_cons] at h2; omega
    exact ⟨_, _, fun _ => thing_int _ ((Shw.int (by omega) (by omega)).grow (by decide) (by decide))⟩
theorem NetS.take {S : List Int} {ts : List Tie} (h : NetS S ts) (k : Nat) : NetS S (ts.take k) := ⟨fun t m => h.mem t (List.mem_of_mem_take m), h.ap.sublist (List.take_sublist _ _)⟩
theorem cut2 (xs : List V) : cutV xs none (some 2) = xs.take 2 := by
  unfold cutV
  rw [HT.sIx_none, show (2 : Int) = ((2 : Nat) : Int) from rfl, HT.sIx_nat, List.drop_zero, Nat.sub_zero]
  by_cases h : 2 ≤ xs.length
  · rw [Nat.min_eq_left h]
  · rw [Nat.min_eq_right (by omega), List.take_of_length_le (Nat.le_refl _), List.take_of_length_le (by omega)]
/-- rooms that can't be made -/
def spMade (p : Addr) (tb : List Addr) : Sp := fun vs H Q _ => ∃ (n : Nat) (tp rp : Addr) (ts : List Tie) (row : List Int), vs = [.int n, .ref tp, .ref rp] ∧ 3 ≤ n ∧ n ≤ 40 ∧ NetS (up n) ts ∧ Nt H (.ref tp) ts ∧ H rp = some (.lst (row.map V.int)) ∧ Stand n row ∧ Tabs tb H ∧
  LamX.TabS H p (("_law_made_right" : Str) ++ ".<locals>." ++ "<lambda>") ∧ ∀ H', Kp [] H H' → Q (.bl true) H'
section
variable {P : Program} {w : World} {K : PySem.W.Frag} {mg : Str → Option Value} {base : Heap}
theorem ok_Room___init__A (T : Txt P K mg base) : FnOk P w K mg base (L2.CX P w) 6 T.a_Room___init__ T.fd_Room___init__ ["self", "seats", "ties", "standing"] (orS (spRmInit T.C_Room T.tbs) (spRmInitX T.C_Room T.tbs K T.X_InvalidNumber T.X_InvalidTies T.X_InvalidStanding)) := FnOk.or (FnOk.may (ok_Room___init__ T)) (ok_Room___init__X T)
theorem ok_Lmade_right (T : Txt P K mg base) : FnG P w K mg base CX0 11 T.a_Lmade_right T.fd_Lmade_right ["_law_seats", "_law_ties", "_law_standing"] (spMade T.p_Lmade_right T.tbs) := by
  refine fnG_of0 T.F_Lmade_right sc_Lmade_right (fun vs H Q E h => ?_) (fun cdv A outer s H vs Q E hcd hr gd h => ?_)
  · obtain ⟨n, tp, rp, ts, row, rfl, _⟩ := h
    rfl
  · obtain ⟨n, tp, rp, ts, row, rfl, n3, n40, hS, hN, hp, hrow, hT, hL, q⟩ := h
    refine ⟨_, (Evl.pss_cut (ps_for PassesOwn.never rfl (pi_list (pe_lst (pa_cons pe_non (pa_cons pe_int (pa_cons pe_int (pa_cons pe_bl (pa_cons pe_str (pa_cons (pe_lst (pa_cons pe_int pa_nil)) (pa_cons pe_dnewK (pa_cons (pe_op op_powG pe_int pe_int) pa_nil)))))))))) (pg_name (i := 4) sc_Lmade_right.nd rfl (Or.inr rfl))
      (pss_one (ps_if (pt_cmpR op_ne (pe_lamK (k := 8) (giv_Lcaught T) T.F_Lcaught sc_Lcaught rfl (Or.inl rfl) T.b_Lcaught rfl T.m_Lcaught gd T.TB_Lmade_right (hcd.symm.trans T.k_Lmade_right) T.lt_Lmade_right rfl (hr.mono (by decide)) (show LamX.LamS (defScope s_Lmade_right) _ from LamX.lamS_by (by decide +kernel)) rfl (fun _ _ _ _ _ => rfl) (fun A outer s H E f d hr => (pe_make T.mk_Room (ok_Room___init__A T) (hr.mono (by decide)) rfl T.mC_Room T.b_Room___init__ .nil pass_lam (pa_cons (pv 4) (pa_cons pe_non (pa_cons pe_non pa_nil)))))) (pe_repr2 hr gd rfl T.n_repr (pa_cons pe_str (pa_cons (pv 4) pa_nil))) (nomark _))
        (pss_one (ps_ret pe_bl))
        pss_nil)))
    (Evl.pss_cut (ps_for PassesOwn.never rfl (pi_list (pe_lst (pa_cons pe_non (pa_cons (pe_tup pa_nil) (pa_cons (pe_callTy call_tuple_of (by rfl) T.n_tuple (by decide +kernel) (pa_cons (pv 1) pa_nil)) (pa_cons pe_dnewK (pa_cons pe_str (pa_cons pe_int pa_nil)))))))) (pg_name (i := 4) sc_Lmade_right.nd rfl (Or.inr rfl))
      (pss_one (ps_if (pt_cmpR op_ne (pe_lamK (k := 8) (giv_Lcaught T) T.F_Lcaught sc_Lcaught rfl (Or.inl rfl) T.b_Lcaught rfl T.m_Lcaught gd T.TB_Lmade_right (hcd.symm.trans T.k_Lmade_right) T.lt_Lmade_right rfl (hr.mono (by decide)) (show LamX.LamS (defScope s_Lmade_right) _ from LamX.lamS_by (by decide +kernel)) rfl (fun _ _ _ _ _ => rfl) (fun A outer s H E f d hr => (pe_make T.mk_Room (ok_Room___init__A T) (hr.mono (by decide)) rfl T.mC_Room T.b_Room___init__ .nil pass_lam (pa_cons (pv 0) (pa_cons (pv 4) (pa_cons pe_non pa_nil)))))) (pe_repr2 hr gd rfl T.n_repr (pa_cons pe_str (pa_cons pe_non pa_nil))) (nomark _))
        (pss_one (ps_ret pe_bl))
        pss_nil)))
    (Evl.pss_cut (ps_for PassesOwn.never rfl (pi_list (pe_lst (pa_cons pe_non (pa_cons (pe_lst pa_nil) (pa_cons (pe_lst (pa_cons pe_int pa_nil)) (pa_cons (pe_lst (pa_cons pe_int (pa_cons pe_int pa_nil))) (pa_cons (pe_lst (pa_cons pe_int (pa_cons pe_int pa_nil))) (pa_cons (pe_lst (pa_cons pe_int (pa_cons (pe_op op_add (pv 0) pe_int) pa_nil))) (pa_cons (pe_lst (pa_cons pe_bl (pa_cons pe_int pa_nil))) (pa_cons (pe_tup (pa_cons pe_int (pa_cons pe_int pa_nil))) pa_nil)))))))))) (pg_name (i := 5) sc_Lmade_right.nd rfl (Or.inr rfl))
      (pss_one (ps_if (pt_cmpR op_ne (pe_lamK (k := 8) (giv_Lcaught T) T.F_Lcaught sc_Lcaught rfl (Or.inl rfl) T.b_Lcaught rfl T.m_Lcaught gd T.TB_Lmade_right (hcd.symm.trans T.k_Lmade_right) T.lt_Lmade_right rfl (hr.mono (by decide)) (show LamX.LamS (defScope s_Lmade_right) _ from LamX.lamS_by (by decide +kernel)) rfl (fun _ _ _ _ _ => rfl) (fun A outer s H E f d hr => (pe_make T.mk_Room (ok_Room___init__A T) (hr.mono (by decide)) rfl T.mC_Room T.b_Room___init__ .nil pass_lam (pa_cons (pv 0) (pa_cons (pe_op op_cat (pe_slice (r := rSlL K) sl_list (pv 1) po_none (po_some pe_int)) (pe_lst (pa_cons (pv 5) (pa_cons pe_non pa_nil)))) (pa_cons pe_non pa_nil)))))) (pe_repr2 hr gd rfl T.n_repr (pa_cons pe_str (pa_cons (pe_callB cr_len (by rfl) T.n_len (by decide +kernel) (pa_cons (pe_slice sl_list (pv 1) po_none (po_some pe_int)) pa_nil)) pa_nil))) (nomark _))
        (pss_one (ps_ret pe_bl))
        pss_nil)))
    (Evl.pss_cut (ps_for PassesOwn.never rfl (pi_list (pe_callG (ok_Lbent T) (hr.mono (by decide)) gd rfl T.m_Lbent T.F_Lbent.kp T.b_Lbent .nil pass0 (pa_cons (pv 2) pa_nil))) (pg_tup rfl (pgs_cons (pg_name (i := 4) sc_Lmade_right.nd rfl (Or.inr rfl)) (pgs_cons (pg_name (i := 3) sc_Lmade_right.nd rfl (Or.inl rfl)) pgs_nil)))
      (pss_one (ps_if (pt_cmpR op_ne (pe_lamK (k := 8) (giv_Lcaught T) T.F_Lcaught sc_Lcaught rfl (Or.inl rfl) T.b_Lcaught rfl T.m_Lcaught gd T.TB_Lmade_right (hcd.symm.trans T.k_Lmade_right) T.lt_Lmade_right rfl (hr.mono (by decide)) (show LamX.LamS (defScope s_Lmade_right) _ from LamX.lamS_by (by decide +kernel)) rfl (fun _ _ _ _ _ => rfl) (fun A outer s H E f d hr => (pe_makeK0 T.mk_Room (ok_Room___init__A T) (hr.mono (by decide)) rfl T.mC_Room T.kr_Room pass_lam (pk_cons (pv 4) (pk_cons (pv 1) (pk_cons (pv 0) pk_nil)))))) (pe_repr2 hr gd rfl T.n_repr (pa_cons pe_str (pa_cons (pv 3) pa_nil))) (nomark _))
        (pss_one (ps_ret pe_bl))
        pss_nil)))
    (pss_one (ps_ret (pe_cmpR op_eq (pe_lamK (k := 8) (giv_Lcaught T) T.F_Lcaught sc_Lcaught rfl (Or.inl rfl) T.b_Lcaught rfl T.m_Lcaught gd T.TB_Lmade_right (hcd.symm.trans T.k_Lmade_right) T.lt_Lmade_right rfl (hr.mono (by decide)) (show LamX.LamS (defScope s_Lmade_right) _ from LamX.lamS_by (by decide +kernel)) rfl (fun _ _ _ _ _ => rfl) (fun A outer s H E f d hr => (pe_make T.mk_Room (ok_Room___init__A T) (hr.mono (by decide)) rfl T.mC_Room T.b_Room___init__ .nil pass_lam (pa_cons (pv 0) (pa_cons (pv 1) (pa_cons (pv 2) pa_nil)))))) pe_str (nomark _)))))))), ?_⟩
    rw [show start ["_law_seats", "_law_ties", "_law_standing", "_law_at", "_law_bad", "_law_thing"] [.int n, .ref tp, .ref rp] = [some (.int n), some (.ref tp), some (.ref rp), none, none, none] from rfl]
    walk_at "go"
    refine g_cut (fun σ' H' => ∃ (x3 x4 x5 : Option V), σ' = [some (.int n), some (.ref tp), some (.ref rp), x3, x4, x5] ∧ Kp [] H H') ?_ ?_
    · walk_at "go"
      rename_i q1 hq1
      refine fun d0 hd0 => ?_
      walk_at "go"
      rename_i l1 hl1
      have k1 : Kp [] H (upd H q1 (.lst [V.int 3])) := (Kp.refl _ _).put hq1
      have k2 := k1.put (o := .dK []) (k1.free hd0)
      have eq1 : (upd (upd H q1 (.lst [V.int 3])) d0 (.dK [])) q1 = some (.lst [V.int 3]) := by walk_at "look"
      have ed0 : (upd (upd H q1 (.lst [V.int 3])) d0 (.dK [])) d0 = some (.dK []) := upd_same
      have ez : V.int ((10 : Int) ^ (20 : Int).toNat) = V.int 100000000000000000000 := by decide +kernel
      rw [ez]
      have all : ∀ y ∈ [V.non, V.int 2, V.int 41, V.bl true, V.str "3", V.ref q1, V.ref d0, V.int 100000000000000000000], ∃ o x, Thing K [] (upd (upd H q1 (.lst [V.int 3])) d0 (.dK [])) y o x ∧ badSeats o := by
        intro y hy
        simp only [List.mem_cons, List.not_mem_nil, or_false] at hy
        rcases hy with rfl | rfl | rfl | rfl | rfl | rfl | rfl | rfl
        · exact ⟨_, _, thing_non, fun _ z => nomatch z⟩
        · exact ⟨_, _, thing_int 2 ⟨by decide +kernel, by decide +kernel, by decide⟩, fun i z => by cases z; decide⟩
        · exact ⟨_, _, thing_int 41 ⟨by decide +kernel, by decide +kernel, by decide⟩, fun i z => by cases z; decide⟩
        · exact ⟨_, _, thing_bl true, fun _ z => nomatch z⟩
        · exact ⟨_, _, thing_str "3" ⟨by decide +kernel, by decide +kernel, by decide⟩, fun _ z => nomatch z⟩
        · exact ⟨_, _, thing_one eq1 nin0 ⟨by decide +kernel, by decide +kernel, by decide⟩, fun _ z => nomatch z⟩
        · exact ⟨_, _, thing_dic ed0 nin0, fun _ z => nomatch z⟩
        · exact ⟨_, _, thing_int 100000000000000000000 ⟨by decide +kernel, by decide +kernel, by decide⟩, fun i z => by cases z; decide⟩
      generalize [V.non, V.int 2, V.int 41, V.bl true, V.str "3", V.ref q1, V.ref d0, V.int 100000000000000000000] = things at *
      generalize upd (upd H q1 (.lst [V.int 3])) d0 (.dK []) = G1 at *
      clear eq1 ed0 hq1 hd0 k1
      have el : (upd G1 l1 (.lst things)) l1 = some (.lst things) := upd_same
      have k3 := (Kp.refl [] G1).put (o := .lst things) hl1
      refine g_forL (xs := things) (fun j σ' H' => ∃ (x3 x4 x5 : Option V), σ' = [some (.int n), some (.ref tp), some (.ref rp), x3, x4, x5] ∧ Kp [] (upd G1 l1 (.lst things)) H') ⟨_, _, _, rfl, Kp.refl _ _⟩ (fun j σ' H' _ h => ?_) (fun j y σ' H' hj h => ?_) (fun σ' H' h => ?_)
      · obtain ⟨x3, x4, x5, rfl, k⟩ := h
        exact SqL.of (k.lst nin0 el)
      · obtain ⟨x3, x4, x5, rfl, k⟩ := h
        obtain ⟨o, x, th, hb⟩ := all y (List.mem_of_getElem? hj)
        have th2 := th.kp (k3.trans k)
        walk_at "go"
        refine ⟨((k2.trans k3).trans k).lam _ _ T.lt_Lmade_right hL, fun G g E' Q' hE hQ => ?_⟩
        walk_at "go"
        refine g_kMk fun xa dx x0 dx0 ne => .inr ⟨xa, _, _, _, rfl, .inl (.inl ⟨y, o, .non, rfl, ?_, hb, fun d hd => hE _ _ _ (CauE.mk (f := "number") (l := "figure") (x := x) (by simp) hd ?_ th.sh fun G2 g2 => ?_)⟩)⟩
        · exact th2.wh _ (g.trans (((Kp.refl [] _).put dx0).put x0))
        · exact fun G g2 => th2.dp _ (g.trans ((((Kp.refl [] _).put dx0).put x0).trans g2))
        · have g3 := k.trans (g.trans ((((Kp.refl [] _).put (o := .own xa) dx0).put (o := .ins T.C_Room dx []) x0).trans g2))
          have th4 := (th.kp k3).kp g3
          walk_at "go"
          refine g_r2 (th4.dp _ (Kp.refl _ _)) (shw_two th.sh (shw_t _ (by simp))) (by decide) (by decide) fun G3 g4 => ?_
          walk_at "go"
          refine g_kNX rfl ?_
          walk_at "go"
          exact ⟨_, _, _, rfl, g3.trans g4⟩
      · obtain ⟨x3, x4, x5, rfl, k⟩ := h
        exact ⟨_, _, _, rfl, (k2.trans k3).trans k⟩
    rintro σ' H1 ⟨x3, x4, x5, rfl, kH⟩
    obtain ⟨xs, hx, hD⟩ := nt_inv hN
    have len2 := hD.length
    rw [List.length_map] at len2
    have xs9 : xs.length ≤ 900 := by rw [len2]; exact hS.few n40
    walk_at "go"
    refine g_cut (fun σ' H' => ∃ (x3 x4 x5 : Option V), σ' = [some (.int n), some (.ref tp), some (.ref rp), x3, x4, x5] ∧ Kp [] H H') ?_ ?_
    · walk_at "go"
      rename_i e0 he0
      have k0 : Kp [] H1 (upd H1 e0 (.tup [])) := (Kp.refl _ _).put he0
      refine ⟨tp, xs, rfl, .inl ⟨SqL.of ((kH.trans k0).lst nin0 hx), fun t0 ht0 => ?_⟩⟩
      have k1 := k0.put (o := .tup xs) (k0.free ht0)
      walk_at "go"
      refine fun d0 hd0 => ?_
      walk_at "go"
      rename_i l1 hl1
      have k2 := k1.put (o := .dK []) (k1.free hd0)
      have ee0 : (upd (upd (upd H1 e0 (.tup [])) t0 (.tup xs)) d0 (.dK [])) e0 = some (.tup []) := by walk_at "look"
      have et0 : (upd (upd (upd H1 e0 (.tup [])) t0 (.tup xs)) d0 (.dK [])) t0 = some (.tup xs) := by walk_at "look"
      have ed0 : (upd (upd (upd H1 e0 (.tup [])) t0 (.tup xs)) d0 (.dK [])) d0 = some (.dK []) := upd_same
      have all : ∀ y ∈ [V.non, V.ref e0, V.ref t0, V.ref d0, V.str "1", V.int 5], ∃ t, (∀ G, Kp [] (upd (upd (upd H1 e0 (.tup [])) t0 (.tup xs)) d0 (.dK [])) G → TyX K G y (.type t)) ∧ kitB t "list" = some false := by
        intro y hy
        simp only [List.mem_cons, List.not_mem_nil, or_false] at hy
        rcases hy with rfl | rfl | rfl | rfl | rfl | rfl
        · exact ⟨"NoneType", fun _ _ => .base .non, by decide +kernel⟩
        · exact ⟨"tuple", fun _ k => .base (.tup (k.tup nin0 ee0)), by decide +kernel⟩
        · exact ⟨"tuple", fun _ k => .base (.tup (k.tup nin0 et0)), by decide +kernel⟩
        · exact ⟨"dict", fun _ k => .base (.dK (k.keep _ _ nin0 ed0 (ntb rfl))), by decide +kernel⟩
        · exact ⟨"str", fun _ _ => .base (.str _), by decide +kernel⟩
        · exact ⟨"int", fun _ _ => .base (.int _), by decide +kernel⟩
      generalize [V.non, V.ref e0, V.ref t0, V.ref d0, V.str "1", V.int 5] = things at *
      generalize upd (upd (upd H1 e0 (.tup [])) t0 (.tup xs)) d0 (.dK []) = G1 at *
      clear ee0 et0 ed0 he0 ht0 hd0 k0 k1
      have el : (upd G1 l1 (.lst things)) l1 = some (.lst things) := upd_same
      have k3 := (Kp.refl [] G1).put (o := .lst things) hl1
      refine g_forL (xs := things) (fun j σ' H' => ∃ (x3 x4 x5 : Option V), σ' = [some (.int n), some (.ref tp), some (.ref rp), x3, x4, x5] ∧ Kp [] (upd G1 l1 (.lst things)) H') ⟨_, _, _, rfl, Kp.refl _ _⟩ (fun j σ' H' _ h => ?_) (fun j y σ' H' hj h => ?_) (fun σ' H' h => ?_)
      · obtain ⟨x3, x4, x5, rfl, k⟩ := h
        exact SqL.of (k.lst nin0 el)
      · obtain ⟨x3, x4, x5, rfl, k⟩ := h
        obtain ⟨t, th, hb⟩ := all y (List.mem_of_getElem? hj)
        walk_at "go"
        refine ⟨(((kH.trans k2).trans k3).trans k).lam _ _ T.lt_Lmade_right hL, fun G g E' Q' hE hQ => ?_⟩
        walk_at "go"
        refine g_kMk fun xa dx x0 dx0 ne => .inr ⟨xa, _, _, _, rfl, .inl (.inr (.inl ⟨n, y, t, rfl, n3, n40, ?_, hb, fun d hd => hE _ _ _ (CauE.mk (f := "index") (l := "ties") (x := .none) (by simp) hd (fun _ _ => .inl .non) shw_non fun G2 g2 => ?_)⟩))⟩
        · exact th _ ((k3.trans k).trans (g.trans (((Kp.refl [] _).put dx0).put x0)))
        · have g3 := k.trans (g.trans ((((Kp.refl [] _).put (o := .own xa) dx0).put (o := .ins T.C_Room dx []) x0).trans g2))
          walk_at "go"
          refine g_r2 (.inl .non) (shw_two shw_non (shw_t _ (by simp))) (by decide) (by decide) fun G3 g4 => ?_
          walk_at "go"
          refine g_kNX rfl ?_
          walk_at "go"
          exact ⟨_, _, _, rfl, g3.trans g4⟩
      · obtain ⟨x3, x4, x5, rfl, k⟩ := h
        exact ⟨_, _, _, rfl, ((kH.trans k2).trans k3).trans k⟩
    clear kH
    rintro σ' H1 ⟨x3, x4, x5, rfl, kH⟩
    walk_at "go"
    refine g_cut (fun σ' H' => ∃ (x3 x4 x5 : Option V), σ' = [some (.int n), some (.ref tp), some (.ref rp), x3, x4, x5] ∧ Kp [] H H') ?_ ?_
    · walk_at "go"
      rename_i p1 h1 p2 h2 p3 h3 p4 h4 p5 h5 p6 h6 p7 h7 l1 hl1
      have k1 : Kp [] H1 (upd H1 p1 (.lst [])) := (Kp.refl _ _).put h1
      have k2 := k1.put (o := .lst [.int 1]) (k1.free h2)
      have k3 := k2.put (o := .lst [.int 1, .int 1]) (k2.free h3)
      have k4 := k3.put (o := .lst [.int 0, .int 1]) (k3.free h4)
      have k5 := k4.put (o := .lst [.int 1, .int ((n : Int) + 1)]) (k4.free h5)
      have k6 := k5.put (o := .lst [.bl true, .int 2]) (k5.free h6)
      have k7 := k6.put (o := .tup [.int 1, .int 2]) (k6.free h7)
      have f2 : upd H1 p1 (.lst []) p1 = some (.lst []) := upd_same
      have all : ∀ y ∈ [V.non, V.ref p1, V.ref p2, V.ref p3, V.ref p4, V.ref p5, V.ref p6, V.ref p7], BadTie K (upd (upd (upd (upd (upd (upd (upd H1 p1 (.lst [])) p2 (.lst [.int 1])) p3 (.lst [.int 1, .int 1])) p4 (.lst [.int 0, .int 1])) p5 (.lst [.int 1, .int ((n : Int) + 1)])) p6 (.lst [.bl true, .int 2])) p7 (.tup [.int 1, .int 2])) n y := by
        intro y hy
        simp only [List.mem_cons, List.not_mem_nil, or_false] at hy
        rcases hy with rfl | rfl | rfl | rfl | rfl | rfl | rfl | rfl
        · exact .notl (T := "NoneType") (fun _ _ => .base .non) (by decide +kernel)
        · exact .len (zs := []) (by walk_at "look") (by decide)
        · exact .len (zs := [.int 1]) (by walk_at "look") (by decide)
        · exact .same (i := 1) (by walk_at "look") (by decide) (by omega)
        · exact .out (a := .int 0) (b := .int 1) (by walk_at "look") (.int _) (.int _) (by simp [inI])
        · exact .out (a := .int 1) (b := .int ((n : Int) + 1)) (by walk_at "look") (.int _) (.int _) (by simp [inI]; omega)
        · exact .out (a := .bl true) (b := .int 2) (by walk_at "look") (.bl _) (.int _) (by simp [inI])
        · exact .notl (T := "tuple") (fun _ k => .base (.tup (k.tup nin0 upd_same))) (by decide +kernel)
      generalize [V.non, V.ref p1, V.ref p2, V.ref p3, V.ref p4, V.ref p5, V.ref p6, V.ref p7] = things at *
      generalize upd (upd (upd (upd (upd (upd (upd H1 p1 (.lst [])) p2 (.lst [.int 1])) p3 (.lst [.int 1, .int 1])) p4 (.lst [.int 0, .int 1])) p5 (.lst [.int 1, .int ((n : Int) + 1)])) p6 (.lst [.bl true, .int 2])) p7 (.tup [.int 1, .int 2]) = G1 at *
      clear h1 h2 h3 h4 h5 h6 h7 k1 k2 k3 k4 k5 k6 f2
      have el : (upd G1 l1 (.lst things)) l1 = some (.lst things) := upd_same
      have k8 := (Kp.refl [] G1).put (o := .lst things) hl1
      refine g_forL (xs := things) (fun j σ' H' => ∃ (x3 x4 x5 : Option V), σ' = [some (.int n), some (.ref tp), some (.ref rp), x3, x4, x5] ∧ Kp [] (upd G1 l1 (.lst things)) H') ⟨_, _, _, rfl, Kp.refl _ _⟩ (fun j σ' H' _ h => ?_) (fun j y σ' H' hj h => ?_) (fun σ' H' h => ?_)
      · obtain ⟨x3, x4, x5, rfl, k⟩ := h
        exact SqL.of (k.lst nin0 el)
      · obtain ⟨x3, x4, x5, rfl, k⟩ := h
        have bad := all y (List.mem_of_getElem? hj)
        have kHH := ((kH.trans k7).trans k8).trans k
        walk_at "go"
        refine ⟨kHH.lam _ _ T.lt_Lmade_right hL, fun G g E' Q' hE hQ => ?_⟩
        have hx2 := (kHH.trans g).lst nin0 hx
        walk_at "go"
        rename_i c1 hc1 c2 hc2
        rw [cut2] at *
        have g1 : Kp [] G (upd G c1 (.lst (xs.take 2))) := (Kp.refl _ _).put hc1
        have g2 := g1.put (o := .lst [y, .non]) (g1.free hc2)
        refine g_cat (by walk_at "look") upd_same (triv_sz (by rw [List.length_take]; simp; omega)) fun c3 hc3 => ?_
        have g3 := g2.put (o := .lst (xs.take 2 ++ [y, .non])) (g2.free hc3)
        have e3 : (upd (upd (upd G c1 (.lst (xs.take 2))) c2 (.lst [y, .non])) c3 (.lst (xs.take 2 ++ [y, .non]))) c3 = some (.lst (xs.take 2 ++ [y, .non])) := upd_same
        generalize upd (upd (upd G c1 (.lst (xs.take 2))) c2 (.lst [y, .non])) c3 (.lst (xs.take 2 ++ [y, .non])) = G4 at *
        clear g1 g2 hc1 hc2 hc3
        walk_at "go"
        refine g_kMk fun xa dx x0 dx0 ne => ?_
        have kr : Kp [] G4 (upd (upd G4 dx (.own xa)) xa (.ins T.C_Room dx [])) := ((Kp.refl [] _).put dx0).put x0
        have g5 := (kHH.trans g).trans (g3.trans kr)
        refine .inr ⟨xa, _, _, _, rfl, .inl (.inr (.inr ⟨n, ts.take 2, c3, xs.take 2, [.non], y, rfl, n3, n40, hS.take 2, kr.lst nin0 e3, ?_, ?_, g5.tabs hT, fun G5 d g6 hd => hE _ _ _ (CauE.mk (f := "index") (l := "ties") (x := .int (ts.take 2).length) (by simp) hd (fun _ _ => .inl (.int _)) ?_ fun G2 g2 => ?_)⟩))⟩
        · rw [List.map_take]
          exact (hD.take 2).keep g5 (fun _ _ => nin0) fun _ h => h
        · exact bad.kp ((k8.trans k).trans (g.trans (g3.trans kr)))
        · exact (Shw.int (by omega) (by rw [List.length_take]; omega)).grow (by decide) (by decide)
        · have g7 := k.trans (g.trans ((g3.trans kr).trans (g6.trans g2)))
          have hx3 := ((((kH.trans k7).trans k8)).trans g7).lst nin0 hx
          walk_at "go"
          rename_i c4 hc4
          rw [cut2] at *
          have k9 : Kp [] G2 (upd G2 c4 (.lst (xs.take 2))) := (Kp.refl _ _).put hc4
          rw [show ((xs.take 2).length : Int) = ((ts.take 2).length : Int) by rw [List.length_take, List.length_take, len2]]
          refine g_r2 (.inl (.int _)) (shw_two ((Shw.int (by omega) (by rw [List.length_take]; omega)).grow (by decide) (by decide)) (shw_t _ (by simp))) (by decide) (by decide) fun G3 g8 => ?_
          walk_at "go"
          refine g_kNX rfl ?_
          walk_at "go"
          exact ⟨_, _, _, rfl, (g7.trans k9).trans g8⟩
      · obtain ⟨x3, x4, x5, rfl, k⟩ := h
        exact ⟨_, _, _, rfl, ((kH.trans k7).trans k8).trans k⟩
    clear kH
    rintro σ' H1 ⟨x3, x4, x5, rfl, kH⟩
    walk_at "go"
    refine g_cut (fun σ' H' => ∃ (x3 x4 x5 : Option V), σ' = [some (.int n), some (.ref tp), some (.ref rp), x3, x4, x5] ∧ Kp [] H H') ?_ ?_
    · walk_at "go"
      refine ⟨rp, n, row, rfl, kH.lst nin0 hp, n3, n40, hrow, fun lp ls H2 lp0 k2 elp few lots => ?_⟩
      walk_at "go"
      refine g_forL (xs := ls) (fun j σ' H' => ∃ (x3 x4 x5 : Option V), σ' = [some (.int n), some (.ref tp), some (.ref rp), x3, x4, x5] ∧ Kp [] H2 H') ⟨_, _, _, rfl, Kp.refl _ _⟩ (fun j σ' H' _ h => ?_) (fun j y σ' H' hj h => ?_) (fun σ' H' h => ?_)
      · obtain ⟨x3, x4, x5, rfl, k⟩ := h
        exact SqL.of (k.lst nin0 elp)
      · obtain ⟨x3, x4, x5, rfl, k⟩ := h
        obtain ⟨u, v, wv, rfl, _, hu, lot⟩ := lots y (List.mem_of_getElem? hj)
        obtain ⟨o, x, th⟩ := lot.thing n40
        have kHH := (kH.trans k2).trans k
        have hu2 := k.tup nin0 hu
        have lot2 := lot.kp k
        walk_at "go"
        refine ⟨kHH.lam _ _ T.lt_Lmade_right hL, fun G g E' Q' hE hQ => ?_⟩
        walk_at "go"
        refine g_kMkK rfl fun xa dx x0 dx0 ne => ?_
        have kr : Kp [] G (upd (upd G dx (.own xa)) xa (.ins T.C_Room dx [])) := ((Kp.refl [] _).put dx0).put x0
        have g5 := (kHH.trans g).trans kr
        refine .inr ⟨xa, .int n, .ref tp, v, rfl, .inr ⟨n, ts, rfl, n3, n40, hS, hN.kp0 g5, g5.tabs hT, fun G5 g6 => (lot2.kp (g.trans kr)).standing n40 (fun G6 d g7 hd => hE _ _ _ (CauE.mk (f := "index") (l := "standing") (x := x) (by simp) hd (fun G9 _ => (th G9).dp _ (Kp.refl _ _)) (th H).sh fun G2 g2 => ?_)) g6⟩⟩
        have g9 := k.trans (g.trans (kr.trans (g7.trans g2)))
        walk_at "go"
        refine g_r2 ((th _).dp _ (Kp.refl _ _)) (shw_two (th H).sh (shw_t _ (by simp))) (by decide) (by decide) fun G3 g8 => ?_
        walk_at "go"
        refine g_kNX rfl ?_
        walk_at "go"
        exact ⟨_, _, _, rfl, g9.trans g8⟩
      · obtain ⟨x3, x4, x5, rfl, k⟩ := h
        exact ⟨_, _, _, rfl, (kH.trans k2).trans k⟩
    clear kH
    rintro σ' H1 ⟨x3, x4, x5, rfl, kH⟩
    walk_at "go"
    refine ⟨kH.lam _ _ T.lt_Lmade_right hL, fun G g E' Q' hE hQ => ?_⟩
    walk_at "go"
    refine g_kMk fun xa dx x0 dx0 ne => ?_
    have kg := kH.trans g
    refine .inl ⟨G, xa, dx, rp, .ref tp, n, ts, row, rfl, rfl, x0, dx0, ne, hN.kp0 kg, kg.lst nin0 hp, hS, n3, n40, hrow, kg.tabs hT, fun qp G2 qp0 k2 R2 => ⟨rfl, hQ _ _ ?_⟩⟩
    walk_at "go"
    rw [decide_eq_true rfl]
    exact q _ (kg.trans k2)
end
end Ap


namespace Ap
open PySem L2 PySem.Spec PyProof.Rows
/-- the state behind a call -/
def aft (ts : List Tie) (n : Nat) (s : RS) (cs : List Int) : RS := (moved ts n s.1 cs, s.2 + chg ts n s.1 cs)
/-- the states behind calls, each one a deed -/
def runS (ts : List Tie) (n : Nat) : RS → List Int → List RS
  | _, [] => []
  | s, c :: cs => aft ts n s [c] :: runS ts n (aft ts n s [c]) cs
def lastS (ts : List Tie) (n : Nat) : RS → List Int → RS
  | s, [] => s
  | s, c :: cs => lastS ts n (aft ts n s [c]) cs
theorem runS_snoc {ts : List Tie} {n : Nat} {c : Int} : ∀ {cs : List Int} {s : RS}, runS ts n s (cs ++ [c]) = runS ts n s cs ++ [aft ts n (lastS ts n s cs) [c]]
  | [], _ => rfl
  | d :: cs, s => by
    show aft ts n s [d] :: runS ts n (aft ts n s [d]) (cs ++ [c]) = _
    rw [runS_snoc]; rfl
theorem lastS_snoc {ts : List Tie} {n : Nat} {c : Int} : ∀ {cs : List Int} {s : RS}, lastS ts n s (cs ++ [c]) = aft ts n (lastS ts n s cs) [c]
  | [], _ => rfl
  | d :: cs, s => by
    show lastS ts n (aft ts n s [d]) (cs ++ [c]) = _
    rw [lastS_snoc]; rfl
theorem runS_len {ts : List Tie} {n : Nat} : ∀ {cs : List Int} {s : RS}, (runS ts n s cs).length = cs.length
  | [], _ => rfl
  | d :: cs, s => congrArg (· + 1) runS_len
theorem runS_last {ts : List Tie} {n : Nat} : ∀ {cs : List Int} {s : RS} {hs : List RS}, ∃ hs', hs ++ [s] ++ runS ts n s cs = hs' ++ [lastS ts n s cs] ∧ hs'.length = hs.length + cs.length
  | [], s, hs => ⟨hs, by rw [show runS ts n s [] = [] from rfl, List.append_nil]; rfl, rfl⟩
  | d :: cs, s, hs => by
    obtain ⟨hs', e, l⟩ := runS_last (ts := ts) (n := n) (cs := cs) (s := aft ts n s [d]) (hs := hs ++ [s])
    refine ⟨hs', ?_, by rw [l, List.length_append, List.length_singleton, List.length_cons]; omega⟩
    rw [← show lastS ts n (aft ts n s [d]) cs = lastS ts n s (d :: cs) from rfl, ← e]
    show hs ++ [s] ++ (aft ts n s [d] :: runS ts n (aft ts n s [d]) cs) = _
    simp
theorem lastS_stand {ts : List Tie} {n : Nat} : ∀ {cs : List Int} {s : RS}, Stand n s.1 → (∀ c ∈ cs, c ∈ up n) → Stand n (lastS ts n s cs).1
  | [], _, h, _ => h
  | d :: cs, s, h, hc => lastS_stand (cs := cs) (moved_stand h fun c hm => by rw [List.mem_singleton.mp hm]; exact hc d List.mem_cons_self) fun c hm => hc c (List.mem_cons_of_mem _ hm)
theorem Rm.live {C x qp q : Addr} {G : Addr → Prop} {n : Nat} {ts : List Tie} {hs : List RS} {cur : RS} {H : Hp} (h : Rm C x qp G n ts hs cur H) (hq : H q = none) : Rm C x qp (fun b => G b ∧ b ≠ q) n ts hs cur H := by
  obtain ⟨dx, pp, np, rp, h1, h2, ⟨h30, ds, h31, h32, h33⟩, h4, h5⟩ := h.obj
  obtain ⟨ps, h6, h7⟩ := h.past
  exact ⟨h.ne, ⟨dx, pp, np, rp, h1, (h2.live hq).imp fun b hb => ⟨hb.1.1, hb.1.2.1, hb.1.2.2, hb.2⟩, ⟨⟨h30.1, h30.2.1, h30.2.2, ne_of_none h31 hq⟩, ds, h31, h32, fun k d e => ⟨⟨(h33 k d e).1.1, (h33 k d e).1.2.1, (h33 k d e).1.2.2, ne_of_none (h33 k d e).2 hq⟩, (h33 k d e).2⟩⟩, ⟨h4.1, h4.2.1, h4.2.2, ne_of_none h5 hq⟩, h5⟩,
    ⟨ps, h6, (h7.live hq).imp fun b hb => ⟨hb.1.1, hb.1.2.1, hb.1.2.2, hb.2⟩⟩⟩
theorem rows_mem {P : Addr → Prop} {H : Hp} {vs : List V} {ss : List RS} (h : DaAll P H vs (ss.map fun s => intsD s.1)) {v : V} (hv : v ∈ vs) : ∃ p r, v = .ref p ∧ P p ∧ H p = some (.lst (r.map V.int)) ∧ ∃ s ∈ ss, s.1 = r := by
  obtain ⟨k, hk, rfl⟩ := List.getElem_of_mem hv
  obtain ⟨d, hd, hD⟩ := h.getV (List.getElem?_eq_getElem hk)
  rw [List.getElem?_map] at hd
  obtain ⟨s, hs, rfl⟩ := Option.map_eq_some_iff.mp hd
  obtain ⟨p, e, hp, ep⟩ := Da.ints_inv hD
  exact ⟨p, s.1, e, hp, ep, s, List.mem_of_getElem? hs, rfl⟩
/-- what holds when k items of a run are out: ys the lists that were handed out -/
def RunY (C x qp : Addr) (G : Addr → Prop) (n : Nat) (ts : List Tie) (hs : List RS) (cur : RS) (cs : List Int) (H : Hp) (ys : List V) (H' : Hp) : Prop :=
  ys.length ≤ cs.length ∧ Kp [x, qp] H H' ∧ DaAll (fun b => H b = none) H' ys ((runS ts n cur (cs.take ys.length)).map fun s => intsD s.1) ∧
    ∃ hs', hs ++ [cur] ++ runS ts n cur (cs.take ys.length) = hs' ++ [lastS ts n cur (cs.take ys.length)] ∧ hs'.length = hs.length + ys.length ∧ Rm C x qp (fun b => G b ∧ V.ref b ∉ ys) n ts hs' (lastS ts n cur (cs.take ys.length)) H'
structure RunOk (C x qp cp : Addr) (G : Addr → Prop) (n : Nat) (ts : List Tie) (hs : List RS) (cur : RS) (cl : List Int) (H : Hp) : Prop where
  rm : Rm C x qp G n ts hs cur H
  ok : ROk n ts hs cur
  g : ∀ b, H b = none → G b
  at0 : H cp = some (.lst (cl.map V.int))
  ne : cp ≠ qp
  cs : ∀ c ∈ cl, c ∈ up n
  few : hs.length + cl.length ≤ 2000
/-- the same, whatever the list of the calls holds -/
structure RunB (C x qp : Addr) (G : Addr → Prop) (n : Nat) (ts : List Tie) (hs : List RS) (cur : RS) (cl : List Int) (H : Hp) : Prop where
  rm : Rm C x qp G n ts hs cur H
  ok : ROk n ts hs cur
  g : ∀ b, H b = none → G b
  cs : ∀ c ∈ cl, c ∈ up n
  few : hs.length + cl.length ≤ 2000
theorem RunOk.toB {C x qp cp : Addr} {G : Addr → Prop} {n : Nat} {ts : List Tie} {hs : List RS} {cur : RS} {cl : List Int} {H : Hp} (h : RunOk C x qp cp G n ts hs cur cl H) : RunB C x qp G n ts hs cur cl H := ⟨h.rm, h.ok, h.g, h.cs, h.few⟩
/-- few items are asked for -/
def spRunN (C : Addr) : SpN := fun vs H few Y => ∃ (x qp cp : Addr) (G : Addr → Prop) (n : Nat) (ts : List Tie) (hs : List RS) (cur : RS) (cs : List Int), vs = [.ref x, .ref cp] ∧ RunOk C x qp cp G n ts hs cur cs H ∧ few ≤ cs.length ∧ Y = RunY C x qp G n ts hs cur cs H
/-- all are -/
def spRunG (C : Addr) : SpG := fun vs H cont _ => ∃ (x qp cp : Addr) (G : Addr → Prop) (n : Nat) (ts : List Tie) (hs : List RS) (cur : RS) (cs : List Int), vs = [.ref x, .ref cp] ∧ RunOk C x qp cp G n ts hs cur cs H ∧ ∀ ys H', ys.length = cs.length → RunY C x qp G n ts hs cur cs H ys H' → cont ys H'
section
variable {C x qp cp : Addr} {G : Addr → Prop} {n : Nat} {ts : List Tie} {hs : List RS} {cur : RS} {cs : List Int} {H H' H2 : Hp} {ys : List V} {c : Int} {p : Addr}
theorem RunB.start (h : RunB C x qp G n ts hs cur cs H) : RunY C x qp G n ts hs cur cs H [] H := by
  refine ⟨Nat.zero_le _, Kp.refl _ _, .nil, hs, ?_, rfl, h.rm.imp fun b hb => ⟨hb, fun z => nomatch z⟩⟩
  show hs ++ [cur] ++ runS ts n cur (cs.take 0) = hs ++ [lastS ts n cur (cs.take 0)]
  rw [List.take_zero]
  exact List.append_nil _
theorem RunOk.start (h : RunOk C x qp cp G n ts hs cur cs H) : RunY C x qp G n ts hs cur cs H [] H := h.toB.start
theorem RunOk.at_ (h : RunOk C x qp cp G n ts hs cur cs H) (y : RunY C x qp G n ts hs cur cs H ys H') : H' cp = some (.lst (cs.map V.int)) := by
  obtain ⟨_, k, _⟩ := y
  obtain ⟨dx, pp, np, rp, h1, _⟩ := h.rm.obj
  refine k.lst (nin2 (fun z => ?_) h.ne) h.at0
  have := h.at0
  rw [z, h1] at this
  cases this
theorem take_next {α : Type} {l : List α} {k : Nat} {a : α} (h : l[k]? = some a) : l.take (k + 1) = l.take k ++ [a] := by rw [List.take_add_one, h]; rfl
/-- one more -/
theorem RunB.next (h : RunB C x qp G n ts hs cur cs H) (y : RunY C x qp G n ts hs cur cs H ys H') (hc : cs[ys.length]? = some c) :
    ∃ hs' s, hs'.length = hs.length + ys.length ∧ Rm C x qp (fun b => G b ∧ V.ref b ∉ ys) n ts hs' s H' ∧ ROk n ts hs' s ∧ c ∈ up n ∧ (∀ b, H' b = none → G b ∧ V.ref b ∉ ys) ∧
      ∀ H2 p, Kp [x, qp] H' H2 → Rm C x qp (fun b => G b ∧ V.ref b ∉ ys) n ts (hs' ++ [s]) (moved ts n s.1 [c], s.2 + chg ts n s.1 [c]) H2 → H2 p = none →
        RunY C x qp G n ts hs cur cs H (ys ++ [.ref p]) (upd H2 p (.lst ((moved ts n s.1 [c]).map V.int))) := by
  obtain ⟨y1, y2, y3, hs', y4, y5, y6⟩ := y
  have lt := (List.getElem?_eq_some_iff.mp hc).1
  have cu := h.cs c (List.mem_of_getElem? hc)
  refine ⟨hs', _, y5, y6, ⟨h.ok.net, h.ok.lo, h.ok.hi, lastS_stand h.ok.row fun d hd => h.cs d (List.mem_of_mem_take hd), by have := h.few; omega⟩, cu, fun b hb => ⟨h.g b (y2.free hb), fun z => by
    obtain ⟨p, r, e, _, e2, _⟩ := rows_mem y3 z
    cases e
    rw [hb] at e2
    cases e2⟩, fun H2 p k2 R2 np => ?_⟩
  have tk := take_next hc
  have kp : Kp [x, qp] H2 (upd H2 p (.lst ((moved ts n (lastS ts n cur (cs.take ys.length)).1 [c]).map V.int))) := (Kp.refl _ _).put np
  have k3 := (y2.trans k2).trans kp
  have nin : ∀ b, H b = none → b ∉ [x, qp] := fun b hb => by
    obtain ⟨dx, pp, np, rp, h1, _⟩ := h.rm.obj
    obtain ⟨ps, h2, _⟩ := h.rm.past
    exact nin2 (fun z => by rw [z, h1] at hb; cases hb) fun z => by rw [z, h2] at hb; cases hb
  have lys : (ys ++ [V.ref p]).length = ys.length + 1 := by rw [List.length_append]; rfl
  unfold RunY
  rw [lys, tk, runS_snoc, lastS_snoc]
  refine ⟨by omega, k3, ?_, hs' ++ [lastS ts n cur (cs.take ys.length)], ?_, ?_, ((R2.live np).imp fun b hb => ⟨hb.1.1, fun z => ?_⟩).kp ((Kp.refl _ _).put np)⟩
  · rw [List.map_append]
    refine (y3.keep (k2.trans kp) nin fun _ q => q).append (.cons (Da.ints ?_ upd_same) .nil)
    exact (y2.trans k2).free np
  · rw [← List.append_assoc, y4]
  · rw [List.length_append, List.length_singleton, y5]; omega
  · rcases List.mem_append.mp z with z | z
    · exact hb.1.2 z
    · cases List.mem_singleton.mp z
      exact hb.2 rfl
theorem RunOk.next (h : RunOk C x qp cp G n ts hs cur cs H) (y : RunY C x qp G n ts hs cur cs H ys H') (hc : cs[ys.length]? = some c) :
    ∃ hs' s, hs'.length = hs.length + ys.length ∧ Rm C x qp (fun b => G b ∧ V.ref b ∉ ys) n ts hs' s H' ∧ ROk n ts hs' s ∧ c ∈ up n ∧ (∀ b, H' b = none → G b ∧ V.ref b ∉ ys) ∧
      ∀ H2 p, Kp [x, qp] H' H2 → Rm C x qp (fun b => G b ∧ V.ref b ∉ ys) n ts (hs' ++ [s]) (moved ts n s.1 [c], s.2 + chg ts n s.1 [c]) H2 → H2 p = none →
        RunY C x qp G n ts hs cur cs H (ys ++ [.ref p]) (upd H2 p (.lst ((moved ts n s.1 [c]).map V.int))) := h.toB.next y hc
end
section
variable {P : Program} {w : World} {K : PySem.W.Frag} {mg : Str → Option Value} {base : Heap}
theorem okn_Room_run (T : Txt P K mg base) : NFn P w K mg base 5 T.a_Room_run T.fd_Room_run ["self", "calls"] (spRunN T.C_Room) := by
  refine nfn_of T.F_Room_run sc_Room_run (fun vs H few Y h => ?_) (fun cdv A outer s H vs few Y pn hcd hr h pos => ?_)
  · obtain ⟨x, qp, cp, G, n, ts, hs, cur, cs, rfl, _⟩ := h
    rfl
  · obtain ⟨x, qp, cp, G, n, ts, hs, cur, cs, rfl, ok, le, rfl⟩ := h
    refine ⟨_, (nss_cons (ns_ps (ps_set (i := 2) sc_Room_run.nd rfl (Or.inl rfl) pe_int)) (nss_cons (ns_while (pt_cmpR op_lt (pv 2) (pe_callB cr_len (by rfl) T.n_len (by decide +kernel) (pa_cons (pv 1) pa_nil)) (nomark _)) (nss_cons (ns_ps (ps_expr (pe_meth (pv 0) T.cl_Room T.mt_Room_call (ok_Room_call T) (hr.mono (by decide)) T.b_Room_call .nil pass0 (pa_cons (pe_ix ix_list (pv 1) (pv 2) (fun _ _ => rfl)) pa_nil)))) (nss_cons (ns_yield (pe_prop (pv 0) T.cl_Room T.pr_Room_standing (ok_Room_standing T) (hr.mono (by decide)) T.b_Room_standing .nil pass0 rfl)) (nss_cons (ns_ps (ps_aug (i := 2) sc_Room_run.nd rfl (Or.inl rfl) pe_int ip_add)) nss_nil)))) nss_nil)), ?_⟩
    rw [show start ["self", "calls", "index"] [.ref x, .ref cp] = [some (.ref x), some (.ref cp), none] from rfl]
    walk_at "go"
    refine g_nWhile (fun ys σ' H' => σ' = [some (.ref x), some (.ref cp), some (.int (ys.length : Int))] ∧ ys.length < few ∧ RunY T.C_Room x qp G n ts hs cur cs H ys H') (fun ys _ _ => few - ys.length) ⟨rfl, pos, ok.start⟩ ?_
    rintro ys σ' H' ⟨rfl, lt, hy⟩
    have hcp := ok.at_ hy
    obtain ⟨c, hc⟩ : ∃ c, cs[ys.length]? = some c := ⟨_, List.getElem?_eq_getElem (by omega)⟩
    obtain ⟨hs', s', l', R', ok', cu, hG', nxt⟩ := ok.next hy hc
    walk_at "go"
    obtain ⟨dx, pp, np, rp, h1, _⟩ := R'.obj
    refine g_kDY (by rw [List.length_map]; omega) ?_
    walk_at "go"
    refine g_kMeth h1 (rf_no (by decide +kernel)) ?_
    walk_at "go"
    refine g_ixL hcp (atI_of rfl (by rw [List.getElem?_map, hc]; rfl)) ?_
    walk_at "go"
    refine ⟨x, qp, _, n, ts, hs', s', c, rfl, R', ok', hG', cu, fun H2 k2 R2 => ?_⟩
    have ok2 : ROk n ts (hs' ++ [s']) (moved ts n s'.1 [c], s'.2 + chg ts n s'.1 [c]) := ⟨ok'.net, ok'.lo, ok'.hi, moved_stand ok'.row fun d hd => by rw [List.mem_singleton.mp hd]; exact cu, by rw [List.length_append, List.length_singleton]; have := ok.few; omega⟩
    walk_at "go"
    refine g_nYield lt ?_
    walk_at "go"
    obtain ⟨dx2, pp2, np2, rp2, e1, _⟩ := R2.obj
    refine g_kProp e1 ⟨x, qp, _, n, ts, hs' ++ [s'], _, rfl, R2, ok2, fun p np => ?_⟩
    refine ⟨nxt H2 p k2 R2 np, fun lt2 => ?_⟩
    walk_at "go"
    have ll : (ys ++ [V.ref p]).length = ys.length + 1 := by rw [List.length_append]; rfl
    refine ⟨⟨by rw [ll]; rfl, by omega, nxt H2 p k2 R2 np⟩, by omega⟩
theorem ok_Room_run (T : Txt P K mg base) : GFn P w K mg base 5 T.a_Room_run T.fd_Room_run ["self", "calls"] (spRunG T.C_Room) := by
  refine gfnK_of T.F_Room_run sc_Room_run (fun vs H Q E h => ?_) (fun cdv A outer s H vs Q E pn hcd hr h => ?_)
  · obtain ⟨x, qp, cp, G, n, ts, hs, cur, cs, rfl, _⟩ := h
    rfl
  · obtain ⟨x, qp, cp, G, n, ts, hs, cur, cs, rfl, ok, q⟩ := h
    refine ⟨_, (gss_cons (gs_ps (ps_set (i := 2) sc_Room_run.nd rfl (Or.inl rfl) pe_int)) (gss_cons (gs_while owns_gcx (pt_cmpR op_lt (pv 2) (pe_callB cr_len (by rfl) T.n_len (by decide +kernel) (pa_cons (pv 1) pa_nil)) (nomark _)) (gss_cons (gs_ps (ps_expr (pe_meth (pv 0) T.cl_Room T.mt_Room_call (ok_Room_call T) (hr.mono (by decide)) T.b_Room_call .nil pass0 (pa_cons (pe_ix ix_list (pv 1) (pv 2) (fun _ _ => rfl)) pa_nil)))) (gss_cons (gs_yield (pe_prop (pv 0) T.cl_Room T.pr_Room_standing (ok_Room_standing T) (hr.mono (by decide)) T.b_Room_standing .nil pass0 rfl)) (gss_cons (gs_ps (ps_aug (i := 2) sc_Room_run.nd rfl (Or.inl rfl) pe_int ip_add)) gss_nil)))) gss_nil)), ?_⟩
    rw [show start ["self", "calls", "index"] [.ref x, .ref cp] = [some (.ref x), some (.ref cp), none] from rfl]
    walk_at "go"
    refine g_gWhile (fun ys σ' H' => σ' = [some (.ref x), some (.ref cp), some (.int (ys.length : Int))] ∧ RunY T.C_Room x qp G n ts hs cur cs H ys H') (fun ys _ _ => cs.length - ys.length) ⟨rfl, ok.start⟩ ?_
    rintro ys σ' H' ⟨rfl, hy⟩
    have hcp := ok.at_ hy
    by_cases lt : ys.length < cs.length
    case neg =>
      walk_at "go"
      refine g_kDX (by rw [List.length_map]; omega) ?_
      walk_at "go"
      exact q ys H' (by have := hy.1; omega) hy
    obtain ⟨c, hc⟩ : ∃ c, cs[ys.length]? = some c := ⟨_, List.getElem?_eq_getElem lt⟩
    obtain ⟨hs', s', l', R', ok', cu, hG', nxt⟩ := ok.next hy hc
    walk_at "go"
    obtain ⟨dx, pp, np, rp, h1, _⟩ := R'.obj
    refine g_kDY (by rw [List.length_map]; omega) ?_
    walk_at "go"
    refine g_kMeth h1 (rf_no (by decide +kernel)) ?_
    walk_at "go"
    refine g_ixL hcp (atI_of rfl (by rw [List.getElem?_map, hc]; rfl)) ?_
    walk_at "go"
    refine ⟨x, qp, _, n, ts, hs', s', c, rfl, R', ok', hG', cu, fun H2 k2 R2 => ?_⟩
    have ok2 : ROk n ts (hs' ++ [s']) (moved ts n s'.1 [c], s'.2 + chg ts n s'.1 [c]) := ⟨ok'.net, ok'.lo, ok'.hi, moved_stand ok'.row fun d hd => by rw [List.mem_singleton.mp hd]; exact cu, by rw [List.length_append, List.length_singleton]; have := ok.few; omega⟩
    walk_at "go"
    refine g_gYield (triv_szl (by have := ok.few; omega)) ?_
    walk_at "go"
    obtain ⟨dx2, pp2, np2, rp2, e1, _⟩ := R2.obj
    refine g_kProp e1 ⟨x, qp, _, n, ts, hs' ++ [s'], _, rfl, R2, ok2, fun p np => ?_⟩

    walk_at "go"
    have ll : (ys ++ [V.ref p]).length = ys.length + 1 := by rw [List.length_append]; rfl
    refine ⟨⟨by rw [ll]; rfl, nxt H2 p k2 R2 np⟩, by omega⟩
end
end Ap


namespace Ap
open PySem L2 PySem.Spec PyProof.Rows
/-- a run that comes to what is no call -/
def spRunGX (C : Addr) (K : PySem.W.Frag) (N : Addr) : SpG := fun vs H _ E => ∃ (x qp cp : Addr) (G : Addr → Prop) (n : Nat) (ts : List Tie) (hs : List RS) (cur : RS) (cs : List Int) (bad : V) (rest : List V) (o : Option Int), vs = [.ref x, .ref cp] ∧ RunB C x qp G n ts hs cur cs H ∧
  H cp = some (.lst (cs.map V.int ++ bad :: rest)) ∧ cp ≠ qp ∧ rest.length ≤ 1000 ∧ (∀ H', Kp [x, qp] H H' → Wh K H' bad o) ∧ inI o n = false ∧
    ∀ ys H' d, ys.length = cs.length → RunY C x qp G n ts hs cur cs H ys H' → H' d = none → E (.ref N) (some d) (upd H' d (.xd [("number", bad)]))
section
variable {P : Program} {w : World} {K : PySem.W.Frag} {mg : Str → Option Value} {base : Heap}
theorem ok_Room_callA (T : Txt P K mg base) : FnOk P w K mg base (L2.CX P w) 4 T.a_Room_call T.fd_Room_call ["self", "number"] (orS (spRmCall T.C_Room) (spRmCallX T.C_Room K T.X_UnknownCall)) := FnOk.or (FnOk.may (ok_Room_call T)) (ok_Room_callX T)
/-- a generator that never begins -/
theorem okn_Room_run0 (T : Txt P K mg base) : NFn P w K mg base 5 T.a_Room_run T.fd_Room_run ["self", "calls"] (fun vs _ few Y => vs.length = 2 ∧ few = 0 ∧ Y = fun _ _ => True) := by
  refine nfn_of T.F_Room_run sc_Room_run (fun vs H few Y h => h.1) (fun cdv A outer s H vs few Y pn hcd hr h pos => ?_)
  rw [h.2.1] at pos
  exact absurd pos (Nat.lt_irrefl _)
theorem ok_Room_runX (T : Txt P K mg base) : GFn P w K mg base 5 T.a_Room_run T.fd_Room_run ["self", "calls"] (spRunGX T.C_Room K T.X_UnknownCall) := by
  refine gfnK_of T.F_Room_run sc_Room_run (fun vs H Q E h => ?_) (fun cdv A outer s H vs Q E pn hcd hr h => ?_)
  · obtain ⟨x, qp, cp, G, n, ts, hs, cur, cs, bad, rest, o, rfl, _⟩ := h
    rfl
  · obtain ⟨x, qp, cp, G, n, ts, hs, cur, cs, bad, rest, o, rfl, ok, hcp0, cq, rl, hw, hb, q⟩ := h
    have cx : cp ≠ x := fun z => by
      obtain ⟨dx, pp, np, rp, h1, _⟩ := ok.rm.obj
      rw [z, h1] at hcp0
      cases hcp0
    refine ⟨_, (gss_cons (gs_ps (ps_set (i := 2) sc_Room_run.nd rfl (Or.inl rfl) pe_int)) (gss_cons (gs_while owns_gcx (pt_cmpR op_lt (pv 2) (pe_callB cr_len (by rfl) T.n_len (by decide +kernel) (pa_cons (pv 1) pa_nil)) (nomark _)) (gss_cons (gs_ps (ps_expr (pe_meth (pv 0) T.cl_Room T.mt_Room_call (ok_Room_callA T) (hr.mono (by decide)) T.b_Room_call .nil (passes_call takes_gcx fun _ _ _ _ h => h) (pa_cons (pe_ix ix_list (pv 1) (pv 2) (fun _ _ => rfl)) pa_nil)))) (gss_cons (gs_yield (pe_prop (pv 0) T.cl_Room T.pr_Room_standing (ok_Room_standing T) (hr.mono (by decide)) T.b_Room_standing .nil pass0 rfl)) (gss_cons (gs_ps (ps_aug (i := 2) sc_Room_run.nd rfl (Or.inl rfl) pe_int ip_add)) gss_nil)))) gss_nil)), ?_⟩
    rw [show start ["self", "calls", "index"] [.ref x, .ref cp] = [some (.ref x), some (.ref cp), none] from rfl]
    walk_at "go"
    refine g_gWhile (fun ys σ' H' => σ' = [some (.ref x), some (.ref cp), some (.int (ys.length : Int))] ∧ RunY T.C_Room x qp G n ts hs cur cs H ys H') (fun ys _ _ => cs.length + 1 - ys.length) ⟨rfl, ok.start⟩ ?_
    rintro ys σ' H' ⟨rfl, hy⟩
    have kk := hy.2.1
    have hcp := kk.lst (nin2 cx cq) hcp0
    have le := hy.1
    by_cases lt : ys.length < cs.length
    case neg =>
      have el : ys.length = cs.length := by omega
      have hy0 := hy
      obtain ⟨_, _, _, hs', h5, h6, R'⟩ := hy
      walk_at "go"
      obtain ⟨dx, pp, np, rp, h1, _⟩ := R'.obj
      refine g_kDY (by rw [List.length_append, List.length_map, List.length_cons]; omega) ?_
      walk_at "go"
      refine g_kMeth h1 (rf_no (by decide +kernel)) ?_
      walk_at "go"
      refine g_ixL hcp (atI_of rfl (by rw [List.getElem?_append_right (by rw [List.length_map]; omega), List.length_map, el, Nat.sub_self]; rfl)) ?_
      walk_at "go"
      exact .inr ⟨x, qp, _, n, ts, hs', _, bad, o, rfl, R', hw H' kk, hb, fun d hd => q ys H' d el hy0 hd⟩
    obtain ⟨c, hc⟩ : ∃ c, cs[ys.length]? = some c := ⟨_, List.getElem?_eq_getElem lt⟩
    obtain ⟨hs', s', l', R', ok', cu, hG', nxt⟩ := ok.next hy hc
    walk_at "go"
    obtain ⟨dx, pp, np, rp, h1, _⟩ := R'.obj
    refine g_kDY (by rw [List.length_append, List.length_map]; omega) ?_
    walk_at "go"
    refine g_kMeth h1 (rf_no (by decide +kernel)) ?_
    walk_at "go"
    refine g_ixL hcp (atI_of rfl (by rw [List.getElem?_append_left (by rw [List.length_map]; exact lt), List.getElem?_map, hc]; rfl)) ?_
    walk_at "go"
    refine .inl ⟨x, qp, _, n, ts, hs', s', c, rfl, R', ok', hG', cu, fun H2 k2 R2 => ?_⟩
    have ok2 : ROk n ts (hs' ++ [s']) (moved ts n s'.1 [c], s'.2 + chg ts n s'.1 [c]) := ⟨ok'.net, ok'.lo, ok'.hi, moved_stand ok'.row fun d hd => by rw [List.mem_singleton.mp hd]; exact cu, by rw [List.length_append, List.length_singleton]; have := ok.few; omega⟩
    walk_at "go"
    refine g_gYield (triv_szl (by have := ok.few; omega)) ?_
    walk_at "go"
    obtain ⟨dx2, pp2, np2, rp2, e1, _⟩ := R2.obj
    refine g_kProp e1 ⟨x, qp, _, n, ts, hs' ++ [s'], _, rfl, R2, ok2, fun p np => ?_⟩
    walk_at "go"
    have ll : (ys ++ [V.ref p]).length = ys.length + 1 := by rw [List.length_append]; rfl
    refine ⟨⟨by rw [ll]; rfl, nxt H2 p k2 R2 np⟩, by omega⟩
end
end Ap


namespace Ap
open PySem L2 PySem.Spec PyProof.Rows
theorem some_len41 : ∀ i : Fin 1900, ((toString ((i.val : Nat) : Int) : String) : Str).length ≤ 4 := by decide +kernel
theorem Shw.nat41 {k : Nat} (h : k < 1900) : Shw (.int (k : Int)) 4 0 := by
  refine ⟨?_, ?_, by simp only [PyData.depth]; omega⟩
  · simp only [PyData.showable]
    refine decide_eq_true (Nat.lt_of_le_of_lt (Nat.log2_le_self _) ?_)
    show (k : Int).natAbs < 1920
    omega
  · simp only [PyData.shown]
    exact some_len41 ⟨k, h⟩
/-- all that a room shows -/
def roomD (n : Nat) (ts : List Tie) (hs : List RS) (cur : RS) : PyData := .list [.int n, netD ts, intsD cur.1, .int cur.2, .int hs.length]
def spShown (C : Addr) : Sp := fun vs H Q _ => ∃ (x qp : Addr) (G : Addr → Prop) (n : Nat) (ts : List Tie) (hs : List RS) (cur : RS), vs = [.ref x] ∧ Rm C x qp G n ts hs cur H ∧ ROk n ts hs cur ∧ cur.2 < 1900 ∧ hs.length < 1900 ∧ ∀ H', Kp [] H H' → Q (.str (roomD n ts hs cur).shown) H'
section
variable {P : Program} {w : World} {K : PySem.W.Frag} {mg : Str → Option Value} {base : Heap}
theorem ok_Lshown (T : Txt P K mg base) : FnG P w K mg base CX0 3 T.a_Lshown T.fd_Lshown ["_law_room"] (spShown T.C_Room) := by
  refine fnG_of0 T.F_Lshown sc_Lshown (fun vs H Q E h => ?_) (fun cdv A outer s H vs Q E hcd hr gd h => ?_)
  · obtain ⟨x, qp, G, n, ts, hs, cur, rfl, _⟩ := h
    rfl
  · obtain ⟨x, qp, G, n, ts, hs, cur, rfl, R1, ok, small, short, q⟩ := h
    refine ⟨_, (pss_one (ps_ret (pe_callB (cr_repr hr gd) (by rfl) T.n_repr (by decide +kernel) (pa_cons (pe_lst (pa_cons (pe_prop (pv 0) T.cl_Room T.pr_Room_seats (ok_Room_seats T) (hr.mono (by decide)) T.b_Room_seats .nil pass0 rfl) (pa_cons (pe_prop (pv 0) T.cl_Room T.pr_Room_ties (ok_Room_ties T) (hr.mono (by decide)) T.b_Room_ties .nil pass0 rfl) (pa_cons (pe_prop (pv 0) T.cl_Room T.pr_Room_standing (ok_Room_standing T) (hr.mono (by decide)) T.b_Room_standing .nil pass0 rfl) (pa_cons (pe_prop (pv 0) T.cl_Room T.pr_Room_changes (ok_Room_changes T) (hr.mono (by decide)) T.b_Room_changes .nil pass0 rfl) (pa_cons (pe_callB (cr_lenO (ok_Room___len__ T) (hr.mono (by decide)).in1 T.b_Room___len__ T.ln_Room T.lf_Room) (by rfl) T.n_len (by decide +kernel) (pa_cons (pv 0) pa_nil)) pa_nil)))))) pa_nil)))), ?_⟩
    rw [show start ["_law_room"] [.ref x] = [some (.ref x)] from rfl]
    obtain ⟨dx, pp, np, rp, h1, h2, h3, h4, h5⟩ := R1.obj
    walk_at "go"
    refine g_kProp h1 ⟨x, qp, G, n, ts, hs, cur, rfl, R1, ?_⟩
    walk_at "go"
    refine g_kProp h1 ⟨x, qp, G, n, ts, hs, cur, rfl, R1, ok, fun tl H1 k1 htl => ?_⟩
    have R2 := R1.kp k1
    walk_at "go"
    refine g_kProp (k1.keep x _ nin0 h1 (fun _ z => nomatch z)) ⟨x, qp, G, n, ts, hs, cur, rfl, R2, ok, fun sl hsl => ?_⟩
    walk_at "go"
    have k2 : Kp [] H1 (upd H1 sl (.lst (cur.1.map V.int))) := (Kp.refl _ _).put hsl
    have hx2 := (k1.trans k2).keep x _ nin0 h1 (fun _ z => nomatch z)
    have R3 := R2.kp k2
    refine g_kProp hx2 ⟨x, qp, G, n, ts, hs, cur, rfl, R3, ?_⟩
    walk_at "go"
    refine ⟨x, dx, _, rfl, hx2, ⟨x, qp, G, n, ts, hs, cur, rfl, R3, hs.length, rfl, Nat.lt_of_le_of_lt ok.few (by decide), ?_⟩⟩
    walk_at "go"
    rename_i wl hwl
    have few : ts.length ≤ 900 := by have := ok.net.few; have := ok.hi; omega
    have sh : Shw (roomD n ts hs cur) ((20000 + 2) * 5 + 2) 3 := Shw.list (fun y hy => by
      simp at hy
      rcases hy with rfl | rfl | rfl | rfl | rfl
      · exact (Shw.nat41 (by have := ok.hi; omega)).grow (by decide) (by decide)
      · exact Shw.net ok.net ok.hi few
      · exact Shw.stand ok.row ok.hi
      · exact (Shw.nat41 small).grow (by decide) (by decide)
      · exact (Shw.nat41 short).grow (by decide) (by decide)) (Nat.le_refl _)
    have k3 : Kp [] H1 (upd (upd H1 sl (.lst (cur.1.map V.int))) wl (.lst [.int n, .ref tl, .ref sl, .int cur.2, .int hs.length])) := k2.put (k2.free hwl)
    have slw : sl ≠ wl := ne_of_none (o := .lst (cur.1.map V.int)) upd_same hwl
    have e5 : upd (upd H1 sl (HO.lst (cur.1.map V.int))) wl (HO.lst [V.int n, V.ref tl, V.ref sl, V.int cur.2, V.int hs.length]) sl = some (.lst (cur.1.map V.int)) := by rw [upd_ne slw, upd_same]
    refine g_rep (d := roomD n ts hs cur) (.lst (SqL.of upd_same) (.cons (.int _) (.cons (htl.kp0 k3).dp (.cons (dp_ints e5) (.cons (.int _) (.cons (.int _) .nil)))))) sh (by decide) (by decide) ?_
    walk_at "go"
    exact q _ (k1.trans k3)
end
end Ap


namespace Ap
open PySem L2 PySem.Spec PyProof.Rows
section
variable {C x qp : Addr} {G : Addr → Prop} {n : Nat} {ts : List Tie} {hs : List RS} {cur : RS} {H H' : Hp} {ys : List V} {a b : Int}
/-- nothing was called -/
theorem RunY.none_ (y : RunY C x qp G n ts hs cur [] H ys H') : Kp [x, qp] H H' ∧ Rm C x qp G n ts hs cur H' := by
  obtain ⟨_, k, _, hs', e, _, R⟩ := y
  rw [List.take_nil] at e R
  have : hs = hs' := List.append_cancel_right (show hs ++ [cur] = hs' ++ [cur] by rw [← List.append_nil (hs ++ [cur])]; exact e)
  subst this
  exact ⟨k, R.imp fun _ h => h.1⟩
/-- two seats were called -/
theorem RunY.two (y : RunY C x qp G n ts hs cur [a, b] H ys H') (l : ys.length = 2) : Kp [x, qp] H H' ∧ Rm C x qp G n ts ((hs ++ [cur]) ++ [aft ts n cur [a]]) (aft ts n (aft ts n cur [a]) [b]) H' := by
  obtain ⟨_, k, _, hs', e, _, R⟩ := y
  rw [l] at e R
  have : hs' = (hs ++ [cur]) ++ [aft ts n cur [a]] := List.append_cancel_right (show hs' ++ [aft ts n (aft ts n cur [a]) [b]] = (hs ++ [cur]) ++ [aft ts n cur [a]] ++ [aft ts n (aft ts n cur [a]) [b]] by rw [List.append_assoc (hs ++ [cur])]; exact e.symm)
  subst this
  exact ⟨k, R.imp fun _ h => h.1⟩
end
/-- deeds that a room refuses leave it as it is -/
def spDeeds (C p : Addr) : Sp := fun vs H Q _ => ∃ (x qp op : Addr) (G : Addr → Prop) (n : Nat) (ts : List Tie) (hs : List RS) (cur : RS) (ord : List Int), vs = [.ref x, .ref op] ∧ Rm C x qp G n ts hs cur H ∧ ROk n ts hs cur ∧ (∀ b, H b = none → G b) ∧ cur.2 < 1800 ∧ hs.length < 100 ∧
  H op = some (.lst (ord.map V.int)) ∧ op ≠ qp ∧ Stand n ord ∧ LamX.TabS H p (("_law_deeds_right" : Str) ++ ".<locals>." ++ "<lambda>") ∧ ∀ H', Kp [x, qp] H H' → Rm C x qp G n ts hs cur H' → Q (.bl true) H'
section
variable {P : Program} {w : World} {K : PySem.W.Frag} {mg : Str → Option Value} {base : Heap}
theorem ok_Ldeeds_right (T : Txt P K mg base) : FnG P w K mg base CX0 11 T.a_Ldeeds_right T.fd_Ldeeds_right ["_law_room", "_law_order"] (spDeeds T.C_Room T.p_Ldeeds_right) := by
  refine fnG_of0 T.F_Ldeeds_right sc_Ldeeds_right (fun vs H Q E h => ?_) (fun cdv A outer s H vs Q E hcd hr gd h => ?_)
  · obtain ⟨x, qp, op, G, n, ts, hs, cur, ord, rfl, _⟩ := h
    rfl
  · obtain ⟨x, qp, op, G, n, ts, hs, cur, ord, rfl, R, ok, hG, small, short, ho, oq, hord, hL, q⟩ := h
    refine ⟨_, (pss_cons (ps_set (i := 2) sc_Ldeeds_right.nd rfl (Or.inl rfl) (pe_callG (ok_Lshown T) (hr.mono (by decide)) gd rfl T.m_Lshown T.F_Lshown.kp T.b_Lshown .nil pass0 (pa_cons (pv 0) pa_nil)))
    (Evl.pss_cut (ps_for PassesOwn.never rfl (pi_list (pe_lst (pa_cons pe_non (pa_cons pe_bl (pa_cons pe_bl (pa_cons pe_int (pa_cons (pe_un un_neg pe_int) (pa_cons (pe_op op_add (pe_callB cr_len (by rfl) T.n_len (by decide +kernel) (pa_cons (pv 1) pa_nil)) pe_int) (pa_cons pe_str (pa_cons (pe_lst (pa_cons pe_int pa_nil)) (pa_cons (pe_tup (pa_cons pe_int pa_nil)) (pa_cons pe_dnewK (pa_cons (pe_op op_powG pe_int pe_int) pa_nil))))))))))))) (pg_name (i := 6) sc_Ldeeds_right.nd rfl (Or.inr rfl))
      (Evl.pss_cut (ps_if (PW.pt (pw_or (pt_cmpR op_ne (pe_lamK (k := 8) (giv_Lcaught T) T.F_Lcaught sc_Lcaught rfl (Or.inl rfl) T.b_Lcaught rfl T.m_Lcaught gd T.TB_Ldeeds_right (hcd.symm.trans T.k_Ldeeds_right) T.lt_Ldeeds_right rfl (hr.mono (by decide)) (show LamX.LamS (defScope s_Ldeeds_right) _ from LamX.lamS_by (by decide +kernel)) rfl (fun _ _ _ _ _ => rfl) (fun A outer s H E f d hr => (pe_meth (pv 0) T.cl_Room T.mt_Room_call (ok_Room_callX T) (hr.mono (by decide)) T.b_Room_call .nil pass_lam (pa_cons (pv 6) pa_nil)))) (pe_repr2 hr gd rfl T.n_repr (pa_cons pe_str (pa_cons (pv 6) pa_nil))) (nomark _)) (pw_or1 (pt_cmpR op_ne (pe_callG (ok_Lshown T) (hr.mono (by decide)) gd rfl T.m_Lshown T.F_Lshown.kp T.b_Lshown .nil pass0 (pa_cons (pv 0) pa_nil)) (pv 2) (nomark _)))))
        (pss_one (ps_ret pe_bl))
        pss_nil)
      (Evl.pss_cut (ps_if (PW.pt (pw_or (pt_cmpR op_ne (pe_lamK (k := 8) (giv_Lcaught T) T.F_Lcaught sc_Lcaught rfl (Or.inl rfl) T.b_Lcaught rfl T.m_Lcaught gd T.TB_Ldeeds_right (hcd.symm.trans T.k_Ldeeds_right) T.lt_Ldeeds_right rfl (hr.mono (by decide)) (show LamX.LamS (defScope s_Ldeeds_right) _ from LamX.lamS_by (by decide +kernel)) rfl (fun _ _ _ _ _ => rfl) (fun A outer s H E f d hr => (pe_listG (E := fun cls d H => cls = .ref T.X_UnknownCall ∧ E cls d H) (pgen_meth (pv 0) T.cl_Room T.mt_Room_run (ok_Room_runX T) (hr.mono (by decide)) T.b_Room_run .nil (pa_cons (pe_lst (pa_cons (pv 6) (pa_cons pe_int pa_nil))) pa_nil)) pass_lamN (ns_lam T.xn_UnknownCall) (hr.mono (by decide)) rfl T.n_list (by decide +kernel)))) (pe_repr2 hr gd rfl T.n_repr (pa_cons pe_str (pa_cons (pv 6) pa_nil))) (nomark _)) (pw_or1 (pt_cmpR op_ne (pe_callG (ok_Lshown T) (hr.mono (by decide)) gd rfl T.m_Lshown T.F_Lshown.kp T.b_Lshown .nil pass0 (pa_cons (pv 0) pa_nil)) (pv 2) (nomark _)))))
        (pss_one (ps_ret pe_bl))
        pss_nil)
      (Evl.pss_cut (ps_if (pt_cmpR (op_neE hr.units0) (pe_listZ0 rfl rfl T.n_list rfl T.n_zip rfl T.n_range (pa_cons pe_int pa_nil) (pgen_methN (pv 0) T.cl_Room T.mt_Room_run (okn_Room_run0 T) (hr.mono (by decide)) T.b_Room_run (pa_cons (pe_lst (pa_cons (pv 6) pa_nil)) pa_nil))) (pe_lst pa_nil) (nomark _))
        (pss_one (ps_ret pe_bl))
        pss_nil)
      (pss_cons (ps_par (i := 3) (j := 4) (by rfl) sc_Ldeeds_right.nd rfl rfl (by decide) rfl rfl (pa_cons (pe_prop (pv 0) T.cl_Room T.pr_Room_changes (ok_Room_changes T) (hr.mono (by decide)) T.b_Room_changes .nil pass0 rfl) (pa_cons (pe_callB (cr_lenO (ok_Room___len__ T) (hr.mono (by decide)).in1 T.b_Room___len__ T.ln_Room T.lf_Room) (by rfl) T.n_len (by decide +kernel) (pa_cons (pv 0) pa_nil)) pa_nil)) (by rfl))
      (pss_cons (ps_if (pt_cmpR op_ne (pe_lamK (k := 8) (giv_Lcaught T) T.F_Lcaught sc_Lcaught rfl (Or.inl rfl) T.b_Lcaught rfl T.m_Lcaught gd T.TB_Ldeeds_right (hcd.symm.trans T.k_Ldeeds_right) T.lt_Ldeeds_right rfl (hr.mono (by decide)) (show LamX.LamS (defScope s_Ldeeds_right) _ from LamX.lamS_by (by decide +kernel)) rfl (fun _ _ _ _ _ => rfl) (fun A outer s H E f d hr => (pe_listG (E := fun cls d H => cls = .ref T.X_UnknownCall ∧ E cls d H) (pgen_meth (pv 0) T.cl_Room T.mt_Room_run (ok_Room_runX T) (hr.mono (by decide)) T.b_Room_run .nil (pa_cons (pe_lst (pa_cons (pe_ix (r := rIxL K) ix_list (pv 1) pe_int (fun _ _ => rfl)) (pa_cons (pe_ix (r := rIxL K) ix_list (pv 1) pe_int (fun _ _ => rfl)) (pa_cons (pv 6) (pa_cons pe_int pa_nil))))) pa_nil)) pass_lamN (ns_lam T.xn_UnknownCall) (hr.mono (by decide)) rfl T.n_list (by decide +kernel)))) (pe_repr2 hr gd rfl T.n_repr (pa_cons pe_str (pa_cons (pv 6) pa_nil))) (nomark _))
        (pss_one (ps_ret pe_bl))
        pss_nil)
      (pss_cons (ps_if (PW.pt (pw_or (pt_cmpR op_ne (pe_callB (cr_lenO (ok_Room___len__ T) (hr.mono (by decide)).in1 T.b_Room___len__ T.ln_Room T.lf_Room) (by rfl) T.n_len (by decide +kernel) (pa_cons (pv 0) pa_nil)) (pe_op op_add (pv 4) pe_int) (nomark _)) (pw_or (pt_cmpR op_notN (pe_meth0 (pv 0) T.cl_Room T.mt_Room_undo (ok_Room_undo T) (hr.mono (by decide)) T.b_Room_undo .nil pass0) pe_non (nomark _)) (pw_or (pt_cmpR op_notN (pe_meth0 (pv 0) T.cl_Room T.mt_Room_undo (ok_Room_undo T) (hr.mono (by decide)) T.b_Room_undo .nil pass0) pe_non (nomark _)) (pw_or1 (pt_cmpR op_ne (pe_callG (ok_Lshown T) (hr.mono (by decide)) gd rfl T.m_Lshown T.F_Lshown.kp T.b_Lshown .nil pass0 (pa_cons (pv 0) pa_nil)) (pv 2) (nomark _)))))))
        (pss_one (ps_ret pe_bl))
        pss_nil)
      (pss_one (ps_if (pt_cmpR op_ne (pe_prop (pv 0) T.cl_Room T.pr_Room_changes (ok_Room_changes T) (hr.mono (by decide)) T.b_Room_changes .nil pass0 rfl) (pv 3) (nomark _))
        (pss_one (ps_ret pe_bl))
        pss_nil)))))))))
    (Evl.pss_cut (ps_for PassesOwn.never rfl (pi_list (pe_callG (ok_Lbent T) (hr.mono (by decide)) gd rfl T.m_Lbent T.F_Lbent.kp T.b_Lbent .nil pass0 (pa_cons (pv 1) pa_nil))) (pg_tup rfl (pgs_cons (pg_name (i := 6) sc_Ldeeds_right.nd rfl (Or.inr rfl)) (pgs_cons (pg_name (i := 5) sc_Ldeeds_right.nd rfl (Or.inl rfl)) pgs_nil)))
      (Evl.pss_cut (ps_if (pt_cmpR op_ne (pe_lamK (k := 8) (giv_Lcaught T) T.F_Lcaught sc_Lcaught rfl (Or.inl rfl) T.b_Lcaught rfl T.m_Lcaught gd T.TB_Ldeeds_right (hcd.symm.trans T.k_Ldeeds_right) T.lt_Ldeeds_right rfl (hr.mono (by decide)) (show LamX.LamS (defScope s_Ldeeds_right) _ from LamX.lamS_by (by decide +kernel)) rfl (fun _ _ _ _ _ => rfl) (fun A outer s H E f d hr => (pe_meth (pv 0) T.cl_Room T.mt_Room_round (ok_Room_roundX T) (hr.mono (by decide)) T.b_Room_round .nil pass_lam (pa_cons (pv 6) pa_nil)))) (pe_repr2 hr gd rfl T.n_repr (pa_cons pe_str (pa_cons (pv 5) pa_nil))) (nomark _))
        (pss_one (ps_ret pe_bl))
        pss_nil)
      (pss_one (ps_if (pt_cmpR op_ne (pe_lamK (k := 8) (giv_Lcaught T) T.F_Lcaught sc_Lcaught rfl (Or.inl rfl) T.b_Lcaught rfl T.m_Lcaught gd T.TB_Ldeeds_right (hcd.symm.trans T.k_Ldeeds_right) T.lt_Ldeeds_right rfl (hr.mono (by decide)) (show LamX.LamS (defScope s_Ldeeds_right) _ from LamX.lamS_by (by decide +kernel)) rfl (fun _ _ _ _ _ => rfl) (fun A outer s H E f d hr => (pe_meth (pv 0) T.cl_Room T.mt_Room_round_back (ok_Room_round_backX T) (hr.mono (by decide)) T.b_Room_round_back .nil pass_lam (pa_cons (pv 6) pa_nil)))) (pe_repr2 hr gd rfl T.n_repr (pa_cons pe_str (pa_cons (pv 5) pa_nil))) (nomark _))
        (pss_one (ps_ret pe_bl))
        pss_nil))))
    (pss_one (ps_ret (pe_cmpR op_eq (pe_callG (ok_Lshown T) (hr.mono (by decide)) gd rfl T.m_Lshown T.F_Lshown.kp T.b_Lshown .nil pass0 (pa_cons (pv 0) pa_nil)) (pv 2) (nomark _))))))), ?_⟩
    rw [show start ["_law_room", "_law_order", "_law_before", "_law_changes", "_law_deeds", "_law_at", "_law_bad"] [.ref x, .ref op] = [some (.ref x), some (.ref op), none, none, none, none, none] from rfl]
    have n3 := ok.lo
    have n40 := ok.hi
    have ln := hord.length
    have ox : op ≠ x := fun z => by
      obtain ⟨dx, pp, np, rp, h1, _⟩ := R.obj
      rw [z, h1] at ho
      cases ho
    walk_at "go"
    refine ⟨x, qp, G, n, ts, hs, cur, rfl, R, ok, by omega, by omega, fun H1 k1 => ?_⟩
    walk_at "go"
    refine g_cut (fun σ' H' => ∃ (x3 x4 x5 x6 : Option V), σ' = [some (.ref x), some (.ref op), some (.str (roomD n ts hs cur).shown), x3, x4, x5, x6] ∧ Kp [x, qp] H H' ∧ Rm T.C_Room x qp G n ts hs cur H') ?_ ?_
    · walk_at "go"
      rename_i l0 hl0 u0 hu0
      refine fun d0 hd0 => ?_
      walk_at "go"
      rename_i l1 hl1
      have kx0 : Kp [] H H1 := k1
      have j1 := (Kp.refl [] H1).put (o := .lst [.int 1]) hl0
      have j2 := j1.put (o := .tup [.int 1]) (j1.free hu0)
      have j3 := j2.put (o := .dK []) (j2.free hd0)
      have el0 : upd (upd (upd H1 l0 (.lst [.int 1])) u0 (.tup [.int 1])) d0 (.dK []) l0 = some (.lst [.int 1]) := by walk_at "look"
      have eu0 : upd (upd (upd H1 l0 (.lst [.int 1])) u0 (.tup [.int 1])) d0 (.dK []) u0 = some (.tup [.int 1]) := by walk_at "look"
      have ed0 : upd (upd (upd H1 l0 (.lst [.int 1])) u0 (.tup [.int 1])) d0 (.dK []) d0 = some (.dK []) := upd_same
      obtain ⟨dxr, ppr, npr, rpr, hx1, _⟩ := (R.kp k1).obj
      obtain ⟨psr, hq1, _⟩ := (R.kp k1).past
      have off : ∀ {b : Addr}, H1 b = none → b ∉ [x, qp] := fun {b} hb => nin2 (fun z => by rw [z, hx1] at hb; cases hb) fun z => by rw [z, hq1] at hb; cases hb
      have ol0 := off hl0
      have ou0 := off (j1.free hu0)
      have od0 := off (j2.free hd0)
      have ez : V.int ((10 : Int) ^ (20 : Int).toNat) = V.int 100000000000000000000 := by decide +kernel
      have em : ((ord.map V.int).length : Int) = n := by rw [List.length_map, ln]
      rw [ez, em]
      have all : ∀ y ∈ [V.non, V.bl true, V.bl false, V.int 0, V.int (-1), V.int ((n : Int) + 1), V.str "1", V.ref l0, V.ref u0, V.ref d0, V.int 100000000000000000000], ∃ o dat, Thing K [x, qp] (upd (upd (upd H1 l0 (.lst [.int 1])) u0 (.tup [.int 1])) d0 (.dK [])) y o dat ∧ inI o n = false := by
        intro y hy
        simp only [List.mem_cons, List.not_mem_nil, or_false] at hy
        rcases hy with rfl | rfl | rfl | rfl | rfl | rfl | rfl | rfl | rfl | rfl | rfl
        · exact ⟨_, _, thing_non, rfl⟩
        · exact ⟨_, _, thing_bl true, rfl⟩
        · exact ⟨_, _, thing_bl false, rfl⟩
        · exact ⟨_, _, thing_int 0 ⟨by decide +kernel, by decide +kernel, by decide⟩, by simp [inI]⟩
        · exact ⟨_, _, thing_int (-1) ⟨by decide +kernel, by decide +kernel, by decide⟩, by simp [inI]⟩
        · exact ⟨_, _, thing_int _ ((Shw.int (by omega) (by omega)).grow (by decide) (by decide)), by simp [inI]; omega⟩
        · exact ⟨_, _, thing_str "1" ⟨by decide +kernel, by decide +kernel, by decide⟩, rfl⟩
        · exact ⟨_, _, thing_one el0 ol0 ⟨by decide +kernel, by decide +kernel, by decide⟩, rfl⟩
        · exact ⟨_, _, thing_tup eu0 ou0 ⟨by decide +kernel, by decide +kernel, by decide⟩, rfl⟩
        · exact ⟨_, _, thing_dic ed0 od0, rfl⟩
        · exact ⟨_, _, thing_int 100000000000000000000 ⟨by decide +kernel, by decide +kernel, by decide⟩, by simp [inI]; omega⟩
      generalize [V.non, V.bl true, V.bl false, V.int 0, V.int (-1), V.int ((n : Int) + 1), V.str "1", V.ref l0, V.ref u0, V.ref d0, V.int 100000000000000000000] = things at *
      generalize upd (upd (upd H1 l0 (.lst [.int 1])) u0 (.tup [.int 1])) d0 (.dK []) = G1 at *
      have ol1 := off (j3.free hl1)
      clear el0 eu0 ed0 hl0 hu0 hd0 j1 j2 hx1 hq1 off ol0 ou0 od0
      have el : (upd G1 l1 (.lst things)) l1 = some (.lst things) := upd_same
      have j4 := (Kp.refl [] G1).put (o := .lst things) hl1
      have kS : Kp [] H (upd G1 l1 (.lst things)) := k1.trans (j3.trans j4)
      refine g_forL (xs := things) (fun j σ' H' => ∃ (x3 x4 x5 x6 : Option V), σ' = [some (.ref x), some (.ref op), some (.str (roomD n ts hs cur).shown), x3, x4, x5, x6] ∧ Kp [x, qp] (upd G1 l1 (.lst things)) H' ∧ Rm T.C_Room x qp G n ts hs cur H') ⟨_, _, _, _, rfl, Kp.refl _ _, R.kp kS⟩ (fun j σ' H' _ h => ?_) (fun j y σ' H' hj h => ?_) (fun σ' H' h => ?_)
      · obtain ⟨x3, x4, x5, x6, rfl, k, _⟩ := h
        exact SqL.of (k.lst ol1 el)
      · obtain ⟨x3, x4, x5, x6, rfl, k, R1⟩ := h
        obtain ⟨o, dat, th, hb⟩ := all y (List.mem_of_getElem? hj)
        have kHH := kS.any.trans k
        have th1 := th.kp (j4.any.trans k)
        have ho1 := kHH.lst (nin2 ox oq) ho
        have hT1 := kHH.lam _ _ T.lt_Ldeeds_right hL
        walk_at "go"
        refine g_cut (fun σ' G' => ∃ (x3 x4 x5 : Option V), σ' = [some (.ref x), some (.ref op), some (.str (roomD n ts hs cur).shown), x3, x4, x5, some y] ∧ Kp [x, qp] H' G' ∧ Rm T.C_Room x qp G n ts hs cur G') ?_ ?_
        · walk_at "go"
          refine ⟨hT1, fun G2 g E' Q' hE hQ => ?_⟩
          have RG := R1.kp g
          obtain ⟨dx, pp, np, rp, h1, _⟩ := RG.obj
          walk_at "go"
          refine g_kMeth h1 (rf_no (by decide +kernel)) ?_
          walk_at "go"
          refine ⟨x, qp, _, n, ts, hs, cur, y, o, rfl, RG, th1.wh _ g.any, hb, fun d hd => hE _ _ _ (CauE.mk (f := "number") (l := "call") (x := dat) (by simp) hd (fun G3 g3 => th1.dp _ (g.trans g3).any) th.sh fun G3 g3 => ?_)⟩
          walk_at "go"
          refine g_r2 (th1.dp _ (g.trans g3).any) (shw_two th.sh (shw_t _ (by simp))) (by decide) (by decide) fun G4 g4 => ?_
          walk_at "go"
          refine g_kNX rfl ?_
          walk_at "go"
          refine ⟨x, qp, _, n, ts, hs, cur, rfl, RG.kp (g3.trans g4), ok, by omega, by omega, fun G5 g5 => ?_⟩
          walk_at "go"
          refine g_kNX rfl ?_
          walk_at "go"
          exact ⟨_, _, _, rfl, (g.trans ((g3.trans g4).trans g5)).any, RG.kp ((g3.trans g4).trans g5)⟩
        clear hj all x3 x4 x5 x6
        rintro σ' H2 ⟨x3, x4, x5, rfl, k2, R2⟩
        have th2 := th1.kp k2
        have hT2 := k2.lam _ _ T.lt_Ldeeds_right hT1
        have ho2 := k2.lst (nin2 ox oq) ho1
        have free2 : ∀ {b : Addr}, H2 b = none → G b := fun {b} hb => hG b ((kHH.trans k2).free hb)
        walk_at "go"
        refine g_cut (fun σ' G' => ∃ (x3 x4 x5 : Option V), σ' = [some (.ref x), some (.ref op), some (.str (roomD n ts hs cur).shown), x3, x4, x5, some y] ∧ Kp [x, qp] H2 G' ∧ Rm T.C_Room x qp G n ts hs cur G') ?_ ?_
        · walk_at "go"
          refine ⟨hT2, fun G2 g E' Q' hE hQ => ?_⟩
          have RG := R2.kp g
          obtain ⟨dx, pp, np, rp, h1, _⟩ := RG.obj
          obtain ⟨psG, hq1, _⟩ := RG.past
          walk_at "go"
          refine g_kMethG h1 (rf_no (by decide +kernel)) ?_
          walk_at "go"
          rename_i cp hcp
          have kc : Kp [] G2 (upd G2 cp (.lst [y, .int 1])) := Kp.new hcp
          refine ⟨x, qp, cp, G, n, ts, hs, cur, [], y, [.int 1], o, rfl, ⟨RG.kp kc, ok, fun b hb => free2 ((g.trans kc).free hb), (fun _ z => nomatch z), by simp; omega⟩, upd_same, (fun z => by rw [z, hq1] at hcp; cases hcp), by decide, fun G3 g3 => th2.wh _ ((g.trans kc).any.trans g3), hb, fun ys G3 d _ hy hd => ?_⟩
          obtain ⟨ky, Ry⟩ := hy.none_
          have kA : Kp [x, qp] H2 G3 := (g.trans kc).any.trans ky
          refine ⟨rfl, hE _ _ _ (CauE.mk (f := "number") (l := "call") (x := dat) (by simp) hd (fun G4 g4 => th2.dp _ (kA.trans g4.any)) th.sh fun G4 g4 => ?_)⟩
          walk_at "go"
          refine g_r2 (th2.dp _ (kA.trans g4.any)) (shw_two th.sh (shw_t _ (by simp))) (by decide) (by decide) fun G5 g5 => ?_
          walk_at "go"
          refine g_kNX rfl ?_
          walk_at "go"
          refine ⟨x, qp, _, n, ts, hs, cur, rfl, Ry.kp (g4.trans g5), ok, by omega, by omega, fun G6 g6 => ?_⟩
          walk_at "go"
          refine g_kNX rfl ?_
          walk_at "go"
          exact ⟨_, _, _, rfl, kA.trans ((g4.trans g5).trans g6).any, Ry.kp ((g4.trans g5).trans g6)⟩
        clear x3 x4 x5
        rintro σ' H3 ⟨x3, x4, x5, rfl, k3, R3⟩
        have th3 := th2.kp k3
        have hT3 := k3.lam _ _ T.lt_Ldeeds_right hT2
        have ho3 := k3.lst (nin2 ox oq) ho2
        have free3 : ∀ {b : Addr}, H3 b = none → G b := fun {b} hb => free2 (k3.free hb)
        walk_at "go"
        refine g_cut (fun σ' G' => ∃ (x3 x4 x5 : Option V), σ' = [some (.ref x), some (.ref op), some (.str (roomD n ts hs cur).shown), x3, x4, x5, some y] ∧ Kp [x, qp] H3 G' ∧ Rm T.C_Room x qp G n ts hs cur G') ?_ ?_
        · obtain ⟨dx, pp, np, rp, h1, _⟩ := R3.obj
          walk_at "go"
          refine ⟨rfl, ?_⟩
          walk_at "go"
          refine g_kMethN h1 (rf_no (by decide +kernel)) ?_
          walk_at "go"
          rename_i cp hcp
          have kc : Kp [] H3 (upd H3 cp (.lst [y])) := Kp.new hcp
          refine ⟨0, _, ⟨rfl, rfl, rfl⟩, rfl, fun p hp => ?_⟩
          walk_at "go"
          rename_i p2 hp2
          have kp_ := kc.put (o := .lst []) (kc.free hp)
          have kp2 := kp_.put (o := .lst []) (kp_.free hp2)
          refine g_kX rfl ?_
          walk_at "go"
          exact ⟨_, _, _, rfl, kp2.any, R3.kp kp2⟩
        clear x3 x4 x5
        rintro σ' H4 ⟨x3, x4, x5, rfl, k4, R4⟩
        have th4 := th3.kp k4
        have hT4 := k4.lam _ _ T.lt_Ldeeds_right hT3
        have ho4 := k4.lst (nin2 ox oq) ho3
        have free4 : ∀ {b : Addr}, H4 b = none → G b := fun {b} hb => free3 (k4.free hb)
        have kAll4 : Kp [x, qp] H' H4 := k2.trans (k3.trans k4)
        clear th th1 th2 th3 hT1 hT2 hT3 ho1 ho2 ho3 free2 free3 k2 k3 k4 R2 R3
        obtain ⟨a, b, rest, eord⟩ : ∃ a b rest, ord = a :: b :: rest := by
          match ord, ln with
          | a :: b :: rest, _ => exact ⟨a, b, rest, rfl⟩
          | [a], l => simp at l; omega
          | [], l => simp at l; omega
        have ia : atI (ord.map V.int) 0 = some (.int a) := atI_of (n := 0) rfl (by rw [eord]; rfl)
        have ib : atI (ord.map V.int) 1 = some (.int b) := atI_of (n := 1) rfl (by rw [eord]; rfl)
        have ua : a ∈ up n := hord.mem.mp (by rw [eord]; simp)
        have ub : b ∈ up n := hord.mem.mp (by rw [eord]; simp)
        obtain ⟨dx, pp, np, rp, h1, _⟩ := R4.obj
        walk_at "go"
        refine g_kProp h1 ⟨x, qp, G, n, ts, hs, cur, rfl, R4, ?_⟩
        walk_at "go"
        refine ⟨x, dx, _, rfl, h1, ⟨x, qp, G, n, ts, hs, cur, rfl, R4, hs.length, rfl, Nat.lt_of_le_of_lt ok.few (by decide), ?_⟩⟩
        walk_at "go"
        refine ⟨hT4, fun G2 g E' Q' hE hQ => ?_⟩
        have RG := R4.kp g
        obtain ⟨dx2, pp2, np2, rp2, h2, _⟩ := RG.obj
        obtain ⟨psG, hq2, _⟩ := RG.past
        have hoG := g.lst nin0 ho4
        clear h1
        walk_at "go"
        refine g_kMethG h2 (rf_no (by decide +kernel)) ?_
        walk_at "go"
        rename_i cp hcp
        have kc : Kp [] G2 (upd G2 cp (.lst [.int a, .int b, y, .int 1])) := Kp.new hcp
        refine ⟨x, qp, cp, G, n, ts, hs, cur, [a, b], y, [.int 1], o, rfl, ⟨RG.kp kc, ok, fun b hb => free4 ((g.trans kc).free hb), (fun c hc => ?_), by simp; omega⟩, upd_same, (fun z => by rw [z, hq2] at hcp; cases hcp), by decide, fun G3 g3 => th4.wh _ ((g.trans kc).any.trans g3), hb, fun ys G3 d hl hy hd => ?_⟩
        · simp only [List.mem_cons, List.not_mem_nil, or_false] at hc
          rcases hc with rfl | rfl
          · exact ua
          · exact ub
        obtain ⟨ky, Ry⟩ := hy.two hl
        have kA : Kp [x, qp] H4 G3 := (g.trans kc).any.trans ky
        refine ⟨rfl, hE _ _ _ (CauE.mk (f := "number") (l := "call") (x := dat) (by simp) hd (fun G4 g4 => th4.dp _ (kA.trans g4.any)) th4.sh fun G4 g4 => ?_)⟩
        walk_at "go"
        refine g_r2 (th4.dp _ (kA.trans g4.any)) (shw_two th4.sh (shw_t _ (by simp))) (by decide) (by decide) fun G5 g5 => ?_
        walk_at "go"
        refine g_kNX rfl ?_
        walk_at "go"
        have R5 := Ry.kp (g4.trans g5)
        have kB := kA.trans (g4.trans g5).any
        clear ky Ry kA g4 hd hy h2 hq2 hcp kc hoG RG
        obtain ⟨dx3, pp3, np3, rp3, h3, _⟩ := R5.obj
        have st1 : Stand n (aft ts n cur [a]).1 := moved_stand ok.row fun c hm => by rw [List.mem_singleton.mp hm]; exact ua
        have st2 : Stand n (aft ts n (aft ts n cur [a]) [b]).1 := moved_stand st1 fun c hm => by rw [List.mem_singleton.mp hm]; exact ub
        refine ⟨x, dx3, _, rfl, h3, ⟨x, qp, G, n, ts, _, _, rfl, R5, _, rfl, by simp <;> omega, ?_⟩⟩
        walk_at "go"
        refine g_kNX (by simp <;> omega) ?_
        walk_at "go"
        refine g_kMeth h3 (rf_no (by decide +kernel)) ?_
        walk_at "go"
        refine ⟨x, qp, G, n, ts, hs ++ [cur], aft ts n cur [a], _, rfl, R5, ⟨ok.net, ok.lo, ok.hi, st2, by simp <;> omega⟩, fun b hb => free4 (kB.free hb), fun G6 k6 R6 => ?_⟩
        obtain ⟨dx4, pp4, np4, rp4, h4, _⟩ := R6.obj
        walk_at "go"
        refine ⟨rfl, ?_⟩
        walk_at "go"
        refine g_kNX rfl ?_
        walk_at "go"
        refine g_kMeth h4 (rf_no (by decide +kernel)) ?_
        walk_at "go"
        refine ⟨x, qp, G, n, ts, hs, cur, _, rfl, R6, ⟨ok.net, ok.lo, ok.hi, st1, by simp <;> omega⟩, fun b hb => free4 ((kB.trans k6).free hb), fun G7 k7 R7 => ?_⟩
        obtain ⟨dx5, pp5, np5, rp5, h5, _⟩ := R7.obj
        walk_at "go"
        refine ⟨rfl, ?_⟩
        walk_at "go"
        refine g_kNX rfl ?_
        walk_at "go"
        refine ⟨x, qp, _, n, ts, hs, cur, rfl, R7, ok, by omega, by omega, fun G8 k8 => ?_⟩
        have R8 := R7.kp k8
        obtain ⟨dx6, pp6, np6, rp6, h6, _⟩ := R8.obj
        walk_at "go"
        refine g_kNX rfl ?_
        walk_at "go"
        refine g_kProp h6 ⟨x, qp, G, n, ts, hs, cur, rfl, R8, ?_⟩
        walk_at "go"
        refine g_kNX rfl ?_
        walk_at "go"
        exact ⟨_, _, _, _, rfl, k.trans (kAll4.trans (kB.trans (k6.trans (k7.trans k8.any)))), R8⟩
      · obtain ⟨x3, x4, x5, x6, rfl, k, R1⟩ := h
        exact ⟨_, _, _, _, rfl, kS.any.trans k, R1⟩
    clear k1
    rintro σ' H1 ⟨x3, x4, x5, x6, rfl, kH, R1⟩
    have ho1 := kH.lst (nin2 ox oq) ho
    walk_at "go"
    refine g_cut (fun σ' H' => ∃ (x3 x4 x5 x6 : Option V), σ' = [some (.ref x), some (.ref op), some (.str (roomD n ts hs cur).shown), x3, x4, x5, x6] ∧ Kp [x, qp] H H' ∧ Rm T.C_Room x qp G n ts hs cur H') ?_ ?_
    · walk_at "go"
      refine ⟨op, n, ord, rfl, ho1, n3, n40, hord, fun lp ls H2 lp0 k2 elp few lots => ?_⟩
      walk_at "go"
      refine g_forL (xs := ls) (fun j σ' H' => ∃ (x3 x4 x5 x6 : Option V), σ' = [some (.ref x), some (.ref op), some (.str (roomD n ts hs cur).shown), x3, x4, x5, x6] ∧ Kp [] H2 H') ⟨_, _, _, _, rfl, Kp.refl _ _⟩ (fun j σ' H' _ h => ?_) (fun j y σ' H' hj h => ?_) (fun σ' H' h => ?_)
      · obtain ⟨x3, x4, x5, x6, rfl, k⟩ := h
        exact SqL.of (k.lst nin0 elp)
      · obtain ⟨x3, x4, x5, x6, rfl, k⟩ := h
        obtain ⟨u, v, wv, rfl, _, hu, lot⟩ := lots y (List.mem_of_getElem? hj)
        obtain ⟨o, dat, th⟩ := lot.thing n40
        have hu2 := k.tup nin0 hu
        have lot2 := lot.kp k
        have R2 := R1.kp (k2.trans k)
        have hT2 := (kH.trans (k2.trans k).any).lam _ _ T.lt_Ldeeds_right hL
        walk_at "go"
        refine g_cut (fun σ' G' => ∃ (x3 x4 : Option V), σ' = [some (.ref x), some (.ref op), some (.str (roomD n ts hs cur).shown), x3, x4, some wv, some v] ∧ Kp [] H' G') ?_ ?_
        · walk_at "go"
          refine ⟨hT2, fun G2 g E' Q' hE hQ => ?_⟩
          have RG := R2.kp g
          obtain ⟨dx, pp, np, rp, h1, _⟩ := RG.obj
          walk_at "go"
          refine g_kMeth h1 (rf_no (by decide +kernel)) ?_
          walk_at "go"
          refine ⟨x, qp, _, n, ts, hs, cur, v, rfl, RG, (lot2.kp g).order n40 (fun G3 d g3 hd => hE _ _ _ (CauE.mk (f := "index") (l := "order") (x := dat) (by simp) hd (fun G9 _ => (th G9).dp _ (Kp.refl _ _)) (th H).sh fun G4 g4 => ?_)) (Kp.refl _ _)⟩
          walk_at "go"
          refine g_r2 ((th _).dp _ (Kp.refl _ _)) (shw_two (th H).sh (shw_t _ (by simp))) (by decide) (by decide) fun G5 g5 => ?_
          walk_at "go"
          refine g_kNX rfl ?_
          walk_at "go"
          exact ⟨_, _, rfl, g.trans (g3.trans (g4.trans g5))⟩
        clear x3 x4 x5 x6 hu2
        rintro σ' H3 ⟨x3, x4, rfl, k3⟩
        have lot3 := lot2.kp k3
        have R3 := R2.kp k3
        have hT3 := k3.lam _ _ T.lt_Ldeeds_right hT2
        walk_at "go"
        refine ⟨hT3, fun G2 g E' Q' hE hQ => ?_⟩
        have RG := R3.kp g
        obtain ⟨dx, pp, np, rp, h1, _⟩ := RG.obj
        walk_at "go"
        refine g_kMeth h1 (rf_no (by decide +kernel)) ?_
        walk_at "go"
        refine ⟨x, qp, _, n, ts, hs, cur, v, rfl, RG, (lot3.kp g).order n40 (fun G3 d g3 hd => hE _ _ _ (CauE.mk (f := "index") (l := "order") (x := dat) (by simp) hd (fun G9 _ => (th G9).dp _ (Kp.refl _ _)) (th H).sh fun G4 g4 => ?_)) (Kp.refl _ _)⟩
        walk_at "go"
        refine g_r2 ((th _).dp _ (Kp.refl _ _)) (shw_two (th H).sh (shw_t _ (by simp))) (by decide) (by decide) fun G5 g5 => ?_
        walk_at "go"
        refine g_kNX rfl ?_
        walk_at "go"
        exact ⟨_, _, _, _, rfl, k.trans (k3.trans (g.trans (g3.trans (g4.trans g5))))⟩
      · obtain ⟨x3, x4, x5, x6, rfl, k⟩ := h
        exact ⟨_, _, _, _, rfl, kH.trans (k2.trans k).any, R1.kp (k2.trans k)⟩
    clear kH R1 ho1
    rintro σ' H1 ⟨x3, x4, x5, x6, rfl, kH, R1⟩
    walk_at "go"
    refine ⟨x, qp, _, n, ts, hs, cur, rfl, R1, ok, by omega, by omega, fun H2 k2 => ?_⟩
    walk_at "go"
    rw [decide_eq_true rfl]
    exact q _ (kH.trans k2.any) (R1.kp k2)
end
end Ap


namespace Ap
open PySem L2 PySem.Spec PyProof.Rows
theorem Kp.off2 {x q : Addr} {H G G1 : Hp} (a : Kp [] H G) (b : Kp [x, q] G G1) (hx : H x = none) (hq : H q = none) : Kp [] H G1 :=
  ⟨fun c o _ e t => b.keep c o (nin2 (fun z => by rw [z, hx] at e; cases e) fun z => by rw [z, hq] at e; cases e) (a.keep c o nin0 e t) t, fun c ps e t => by
    obtain ⟨ps', e', t'⟩ := a.tbl c ps e t
    exact b.tbl c ps' e' t', fun c o e => by
    obtain ⟨o', e'⟩ := a.there c o e
    exact b.there c o' e', fun c q l t => b.lam c q l (a.lam c q l t)⟩
/-- a room, its right deeds and those that it refuses -/
def spRight41 (tb : List Addr) (p d : Addr) : Sp := fun vs H Q _ => ∃ (n : Nat) (tp rp op : Addr) (ts : List Tie) (row ord : List Int), vs = [.int n, .ref tp, .ref rp, .ref op] ∧ 3 ≤ n ∧ n ≤ 40 ∧ NetS (up n) ts ∧ Nt H (.ref tp) ts ∧ H rp = some (.lst (row.map V.int)) ∧ Stand n row ∧ H op = some (.lst (ord.map V.int)) ∧ Stand n ord ∧ Tabs tb H ∧
  LamX.TabS H p (("_law_right" : Str) ++ ".<locals>." ++ "<lambda>") ∧ LamX.TabS H d (("_law_deeds_right" : Str) ++ ".<locals>." ++ "<lambda>") ∧ ∀ H', Kp [] H H' → Q (.bl true) H'
theorem atI_last {xs : List V} {v : V} : atI (xs ++ [v]) (-1) = some v := by
  have : ixN (xs ++ [v]).length (-1) = some xs.length := by
    unfold ixN
    rw [if_neg (by decide), if_pos (by rw [List.length_append]; simp; omega)]
    congr 1
    rw [List.length_append]
    simp
    omega
  unfold atI
  rw [this]
  simp
section
variable {P : Program} {w : World} {K : PySem.W.Frag} {mg : Str → Option Value} {base : Heap}
theorem ok_Lright (T : Txt P K mg base) : FnG P w K mg base CX0 12 T.a_Lright T.fd_Lright ["_law_seats", "_law_ties", "_law_standing", "_law_order"] (spRight41 T.tbs T.p_Lright T.p_Ldeeds_right) := by
  refine fnG_of0 T.F_Lright sc_Lright (fun vs H Q E h => ?_) (fun cdv A outer s H vs Q E hcd hr gd h => ?_)
  · obtain ⟨n, tp, rp, op, ts, row, ord, rfl, _⟩ := h
    rfl
  · obtain ⟨n, tp, rp, op, ts, row, ord, rfl, n3, n40, hS, hN, hp, hrow, ho, hord, hT, hL, hD, q⟩ := h
    refine ⟨_, (pss_cons (ps_set (i := 5) sc_Lright.nd rfl (Or.inr rfl) (pe_make T.mk_Room (ok_Room___init__ T) (hr.mono (by decide)) rfl T.mC_Room T.b_Room___init__ .nil pass0 (pa_cons (pv 0) (pa_cons (pv 1) (pa_cons (pv 2) pa_nil)))))
    (pss_cons (ps_if (PW.pt (pw_or (pt_not (pt_val (pe_callG (ok_Ldeeds_right T) (hr.mono (by decide)) gd rfl T.m_Ldeeds_right T.F_Ldeeds_right.kp T.b_Ldeeds_right .nil pass0 (pa_cons (pv 5) (pa_cons (pv 3) pa_nil))))) (pw_or1 (pt_cmpR op_ne (pe_lamK (k := 8) (giv_Lcaught T) T.F_Lcaught sc_Lcaught rfl (Or.inl rfl) T.b_Lcaught rfl T.m_Lcaught gd T.TB_Lright (hcd.symm.trans T.k_Lright) T.lt_Lright rfl (hr.mono (by decide)) (show LamX.LamS (defScope s_Lright) _ from LamX.lamS_by (by decide +kernel)) rfl (fun _ _ _ _ _ => rfl) (fun A outer s H E f d hr => (pe_meth0 (pv 5) T.cl_Room T.mt_Room_undo (ok_undoX T) (hr.mono (by decide)) T.b_Room_undo .nil pass_lam))) pe_str (nomark _)))))
      (pss_one (ps_ret pe_bl))
      pss_nil)
    (pss_cons (ps_expr (pe_meth (pv 5) T.cl_Room T.mt_Room_round (ok_Room_round T) (hr.mono (by decide)) T.b_Room_round .nil pass0 (pa_cons (pv 3) pa_nil)))
    (pss_cons (ps_set (i := 4) sc_Lright.nd rfl (Or.inl rfl) (pe_callG (ok_Lshown T) (hr.mono (by decide)) gd rfl T.m_Lshown T.F_Lshown.kp T.b_Lshown .nil pass0 (pa_cons (pv 5) pa_nil)))
    (pss_cons (ps_if (pt_not (pt_val (pe_callG (ok_Ldeeds_right T) (hr.mono (by decide)) gd rfl T.m_Ldeeds_right T.F_Ldeeds_right.kp T.b_Ldeeds_right .nil pass0 (pa_cons (pv 5) (pa_cons (pv 3) pa_nil)))))
      (pss_one (ps_ret pe_bl))
      pss_nil)
    (pss_cons (ps_expr (pe_meth (pv 5) T.cl_Room T.mt_Room_call (ok_Room_call T) (hr.mono (by decide)) T.b_Room_call .nil pass0 (pa_cons (pe_ix ix_list (pv 3) (pe_un un_neg pe_int) (fun _ _ => rfl)) pa_nil)))
    (pss_cons (ps_if (PW.pt (pw_or (pt_not (pt_val (pe_callG (ok_Ldeeds_right T) (hr.mono (by decide)) gd rfl T.m_Ldeeds_right T.F_Ldeeds_right.kp T.b_Ldeeds_right .nil pass0 (pa_cons (pv 5) (pa_cons (pv 3) pa_nil))))) (pw_or (pt_cmpR op_notN (pe_meth0 (pv 5) T.cl_Room T.mt_Room_undo (ok_Room_undo T) (hr.mono (by decide)) T.b_Room_undo .nil pass0) pe_non (nomark _)) (pw_or1 (pt_cmpR op_ne (pe_callG (ok_Lshown T) (hr.mono (by decide)) gd rfl T.m_Lshown T.F_Lshown.kp T.b_Lshown .nil pass0 (pa_cons (pv 5) pa_nil)) (pv 4) (nomark _))))))
      (pss_one (ps_ret pe_bl))
      pss_nil)
    (pss_cons (ps_if (PW.pt (pw_or (pt_cmpR op_notN (pe_meth0 (pv 5) T.cl_Room T.mt_Room_undo (ok_Room_undo T) (hr.mono (by decide)) T.b_Room_undo .nil pass0) pe_non (nomark _)) (pw_or1 (pt_cmpR op_ne (pe_callB (cr_repr hr gd) (by rfl) T.n_repr (by decide +kernel) (pa_cons (pe_lst (pa_cons (pe_prop (pv 5) T.cl_Room T.pr_Room_standing (ok_Room_standing T) (hr.mono (by decide)) T.b_Room_standing .nil pass0 rfl) (pa_cons (pe_callB (cr_lenO (ok_Room___len__ T) (hr.mono (by decide)).in1 T.b_Room___len__ T.ln_Room T.lf_Room) (by rfl) T.n_len (by decide +kernel) (pa_cons (pv 5) pa_nil)) (pa_cons (pe_prop (pv 5) T.cl_Room T.pr_Room_changes (ok_Room_changes T) (hr.mono (by decide)) T.b_Room_changes .nil pass0 rfl) pa_nil)))) pa_nil)) (pe_callB (cr_repr hr gd) (by rfl) T.n_repr (by decide +kernel) (pa_cons (pe_lst (pa_cons (pv 2) (pa_cons pe_int (pa_cons pe_int pa_nil)))) pa_nil)) (nomark _)))))
      (pss_one (ps_ret pe_bl))
      pss_nil)
    (pss_one (ps_ret (pe_and (pe_cmpR op_eq (pe_lamK (k := 8) (giv_Lcaught T) T.F_Lcaught sc_Lcaught rfl (Or.inl rfl) T.b_Lcaught rfl T.m_Lcaught gd T.TB_Lright (hcd.symm.trans T.k_Lright) T.lt_Lright rfl (hr.mono (by decide)) (show LamX.LamS (defScope s_Lright) _ from LamX.lamS_by (by decide +kernel)) rfl (fun _ _ _ _ _ => rfl) (fun A outer s H E f d hr => (pe_meth0 (pv 5) T.cl_Room T.mt_Room_undo (ok_undoX T) (hr.mono (by decide)) T.b_Room_undo .nil pass_lam))) pe_str (nomark _)) (pe_one (pe_callG (ok_Ldeeds_right T) (hr.mono (by decide)) gd rfl T.m_Ldeeds_right T.F_Ldeeds_right.kp T.b_Ldeeds_right .nil pass0 (pa_cons (pv 5) (pa_cons (pv 3) pa_nil))))))))))))))), ?_⟩
    rw [show start ["_law_seats", "_law_ties", "_law_standing", "_law_order", "_law_first", "_law_room"] [.int n, .ref tp, .ref rp, .ref op] = [some (.int n), some (.ref tp), some (.ref rp), some (.ref op), none, none] from rfl]
    have ln := hord.length
    walk_at "go"
    refine g_kMk fun x dx x0 dx0 ne => ⟨H, x, dx, rp, .ref tp, n, ts, row, rfl, rfl, x0, dx0, ne, hN, hp, hS, n3, n40, hrow, hT, fun qp H1 q0 k1 R1 => ⟨rfl, ?_⟩⟩
    have ox : op ≠ x := fun z => by rw [z, x0] at ho; cases ho
    have oq : op ≠ qp := fun z => by rw [z, q0] at ho; cases ho
    have rx : rp ≠ x := fun z => by rw [z, x0] at hp; cases hp
    have rq : rp ≠ qp := fun z => by rw [z, q0] at hp; cases hp
    have ok0 : ROk n ts [] (row, 0) := ⟨hS, n3, n40, hrow, by decide⟩
    have ho1 := k1.lst nin0 ho
    have hp1 := k1.lst nin0 hp
    have hL1 := k1.lam _ _ T.lt_Lright hL
    have hD1 := k1.lam _ _ T.lt_Ldeeds_right hD
    have fr : ∀ {b : Addr}, H1 b = none → H b = none := fun hb => k1.free hb
    walk_at "go"
    refine ⟨x, qp, op, _, n, ts, [], (row, 0), ord, rfl, R1, ok0, fun b hb => fr hb, (show 0 < 1800 by decide), (show 0 < 100 by decide), ho1, oq, hord, hD1, fun H2 k2 R2 => ?_⟩
    have hL2 := k2.lam _ _ T.lt_Lright hL1
    walk_at "go"
    refine ⟨hL2, fun H3 k3 E' Q' hE hQ => ?_⟩
    have R3 := R2.kp k3
    obtain ⟨dx3, pp3, np3, rp3, h3, _⟩ := R3.obj
    walk_at "go"
    refine g_kMeth h3 (rf_no (by decide +kernel)) ?_
    walk_at "go"
    refine ⟨x, qp, _, n, ts, (row, 0), rfl, R3, fun H4 k4 => hE _ _ _ (.inl ⟨rfl, rfl, fun H5 k5 => ?_⟩)⟩
    have R5 := R3.kp (k4.trans k5)
    have kA := k2.trans (k3.trans (k4.trans k5)).any
    clear k2 k3 k4 k5 R2 R3 h3 hL2
    obtain ⟨dx3, pp3, np3, rp3, h3, _⟩ := R5.obj
    walk_at "go"
    refine g_kNX rfl ?_
    walk_at "go"
    refine g_kMeth h3 (rf_no (by decide +kernel)) ?_
    walk_at "go"
    refine ⟨x, qp, op, _, n, ts, [], (row, 0), ord, rfl, R5, ok0, fun b hb => fr (kA.free hb), kA.lst (nin2 ox oq) ho1, oq, hord, fun H6 k6 R6 => ?_⟩
    obtain ⟨s1, hs1⟩ : ∃ s1 : RS, s1 = (moved ts n row ord, 0 + chg ts n row ord) := ⟨_, rfl⟩
    have R6 : Rm T.C_Room x qp (fun b => H b = none) n ts [(row, 0)] s1 H6 := by rw [hs1]; exact R6
    have c1 := chg_le ts n ord row
    have st1 : Stand n s1.1 := by rw [hs1]; exact moved_stand hrow fun c hm => hord.mem.mp hm
    have sm1 : s1.2 ≤ 40 := by rw [hs1]; show 0 + chg ts n row ord ≤ 40; omega
    have ok1 : ROk n ts [(row, 0)] s1 := ⟨hS, n3, n40, st1, (show 1 ≤ 2000 by decide)⟩
    obtain ⟨c, r, hrc⟩ : ∃ c r, ord = r ++ [c] := by
      rcases List.eq_nil_or_concat ord with e | ⟨r, c, e⟩
      · rw [e] at ln; simp at ln; omega
      · exact ⟨c, r, by rw [e, List.concat_eq_append]⟩
    have il : atI (ord.map V.int) (-1) = some (.int c) := by rw [hrc, List.map_append]; exact atI_last
    have uc : c ∈ up n := hord.mem.mp (by rw [hrc]; simp)
    have kB := kA.trans k6
    clear kA k6 R5 h3
    walk_at "go"
    refine ⟨x, qp, _, n, ts, [(row, 0)], s1, rfl, R6, ok1, by omega, (show 1 < 1900 by decide), fun H7 k7 => ?_⟩
    have R7 := R6.kp k7
    have kA := kB.trans k7.any
    clear kB k7 R6
    walk_at "go"
    refine ⟨x, qp, op, _, n, ts, [(row, 0)], s1, ord, rfl, R7, ok1, fun b hb => fr (kA.free hb), by omega, (show 1 < 100 by decide), kA.lst (nin2 ox oq) ho1, oq, hord, kA.lam _ _ T.lt_Ldeeds_right hD1, fun H8 k8 R8 => ?_⟩
    have kB := kA.trans k8
    clear kA k8 R7
    obtain ⟨dx_, pp_, np_, rp_, h3, _⟩ := R8.obj
    have hoX := kB.lst (nin2 ox oq) ho1
    walk_at "go"
    refine g_kMeth h3 (rf_no (by decide +kernel)) ?_
    walk_at "go"
    refine ⟨x, qp, _, n, ts, [(row, 0)], s1, c, rfl, R8, ok1, fun b hb => fr (kB.free hb), uc, fun H9 k9 R9 => ?_⟩
    obtain ⟨s2, hs2⟩ : ∃ s2 : RS, s2 = (moved ts n s1.1 [c], s1.2 + chg ts n s1.1 [c]) := ⟨_, rfl⟩
    have R9 : Rm T.C_Room x qp (fun b => H b = none) n ts [(row, 0), s1] s2 H9 := by rw [hs2]; exact R9
    have c2 := chg_le ts n [c] s1.1
    have st2 : Stand n s2.1 := by rw [hs2]; exact moved_stand st1 fun d hm => by rw [List.mem_singleton.mp hm]; exact uc
    have sm2 : s2.2 ≤ 41 := by
      rw [hs2]; show s1.2 + chg ts n s1.1 [c] ≤ 41
      simp only [List.length_singleton] at c2
      omega
    have ok2 : ROk n ts [(row, 0), s1] s2 := ⟨hS, n3, n40, st2, (show 2 ≤ 2000 by decide)⟩
    have kA := kB.trans k9
    clear kB k9 R8 h3 hoX
    walk_at "go"
    refine ⟨x, qp, op, _, n, ts, [(row, 0), s1], s2, ord, rfl, R9, ok2, fun b hb => fr (kA.free hb), by omega, (show 2 < 100 by decide), kA.lst (nin2 ox oq) ho1, oq, hord, kA.lam _ _ T.lt_Ldeeds_right hD1, fun H10 k10 R10 => ?_⟩
    have kB := kA.trans k10
    clear kA k10 R9
    obtain ⟨dx_, pp_, np_, rp_, h3, _⟩ := R10.obj
    walk_at "go"
    refine g_kMeth h3 (rf_no (by decide +kernel)) ?_
    walk_at "go"
    refine ⟨x, qp, _, n, ts, [(row, 0)], s1, s2, rfl, R10, ok2, fun b hb => fr (kB.free hb), fun H11 k11 R11 => ?_⟩
    have kA := kB.trans k11
    clear kB k11 R10 h3
    walk_at "go"
    refine ⟨rfl, ?_⟩
    walk_at "go"
    refine g_kNX rfl ?_
    walk_at "go"
    refine ⟨x, qp, _, n, ts, [(row, 0)], s1, rfl, R11, ok1, by omega, (show 1 < 1900 by decide), fun H12 k12 => ?_⟩
    have R12 := R11.kp k12
    have kB := kA.trans k12.any
    clear kA k12 R11
    obtain ⟨dx_, pp_, np_, rp_, h3, _⟩ := R12.obj
    walk_at "go"
    refine g_kNX rfl ?_
    walk_at "go"
    refine g_kMeth h3 (rf_no (by decide +kernel)) ?_
    walk_at "go"
    refine ⟨x, qp, _, n, ts, [], (row, 0), s1, rfl, R12, ok1, fun b hb => fr (kB.free hb), fun H13 k13 R13 => ?_⟩
    have kA := kB.trans k13
    clear kB k13 R12 h3
    obtain ⟨dx_, pp_, np_, rp_, h3, _⟩ := R13.obj
    walk_at "go"
    refine ⟨rfl, ?_⟩
    walk_at "go"
    refine g_kNX rfl ?_
    walk_at "go"
    refine g_kProp h3 ⟨x, qp, _, n, ts, [], (row, 0), rfl, R13, ok0, fun sl hsl => ?_⟩
    have k14 : Kp [] H13 (upd H13 sl (.lst (row.map V.int))) := (Kp.refl _ _).put hsl
    have R14 := R13.kp k14
    have h4 := k14.keep x _ nin0 h3 (fun _ z => nomatch z)
    have es : upd H13 sl (.lst (row.map V.int)) sl = some (.lst (row.map V.int)) := upd_same
    have hp14 := (kA.trans k14.any).lst (nin2 rx rq) hp1
    walk_at "go"
    refine ⟨x, dx_, _, rfl, h4, ⟨x, qp, _, n, ts, [], (row, 0), rfl, R14, 0, rfl, by decide, ?_⟩⟩
    walk_at "go"
    refine g_kProp h4 ⟨x, qp, _, n, ts, [], (row, 0), rfl, R14, ?_⟩
    walk_at "go"
    rename_i wl hwl
    have sh : Shw (.list [intsD row, .int 0, .int 0]) ((20000 + 2) * 3 + 2) 3 := Shw.list (fun y hy => by
      simp only [List.mem_cons, List.not_mem_nil, or_false] at hy
      rcases hy with rfl | rfl | rfl
      · exact Shw.stand hrow n40
      · exact (Shw.int (by decide) (by decide)).grow (by decide) (by decide)
      · exact (Shw.int (by decide) (by decide)).grow (by decide) (by decide)) (Nat.le_refl _)
    have k15 := k14.put (o := .lst [.ref sl, .int 0, .int 0]) (k14.free hwl)
    have slw : sl ≠ wl := ne_of_none es hwl
    have es2 : upd (upd H13 sl (.lst (row.map V.int))) wl (.lst [.ref sl, .int 0, .int 0]) sl = some (.lst (row.map V.int)) := (upd_ne slw).trans es
    refine g_rep (d := .list [intsD row, .int 0, .int 0]) (.lst (SqL.of upd_same) (.cons (dp_ints es2) (.cons (.int _) (.cons (.int _) .nil)))) sh (by decide) (by decide) ?_
    walk_at "go"
    rename_i w2 hw2
    have k16 := k15.put (o := .lst [.ref rp, .int 0, .int 0]) (k15.free hw2)
    have hp16 := (kA.trans k16.any).lst (nin2 rx rq) hp1
    refine g_rep (d := .list [intsD row, .int 0, .int 0]) (.lst (SqL.of upd_same) (.cons (dp_ints hp16) (.cons (.int _) (.cons (.int _) .nil)))) sh (by decide) (by decide) ?_
    walk_at "go"
    refine g_kNX rfl ?_
    have R16 := R13.kp k16
    have kB := kA.trans k16.any
    generalize upd (upd (upd H13 sl _) wl _) w2 _ = H16 at *
    clear k14 k15 k16 R13 R14 h3 h4 es es2 hwl hw2 hp14 hp16 hsl kA
    walk_at "go"
    refine ⟨kB.lam _ _ T.lt_Lright hL1, fun H17 k17 E' Q' hE hQ => ?_⟩
    have R17 := R16.kp k17
    obtain ⟨dx3, pp3, np3, rp3, h3, _⟩ := R17.obj
    walk_at "go"
    refine g_kMeth h3 (rf_no (by decide +kernel)) ?_
    walk_at "go"
    refine ⟨x, qp, _, n, ts, (row, 0), rfl, R17, fun H18 k18 => hE _ _ _ (.inl ⟨rfl, rfl, fun H19 k19 => ?_⟩)⟩
    have R19 := R17.kp (k18.trans k19)
    have kC := kB.trans (k17.trans (k18.trans k19)).any
    walk_at "go"
    refine g_kDY rfl ?_
    walk_at "go"
    refine ⟨x, qp, op, _, n, ts, [], (row, 0), ord, rfl, R19, ok0, fun b hb => fr (kC.free hb), (show 0 < 1800 by decide), (show 0 < 100 by decide), kC.lst (nin2 ox oq) ho1, oq, hord, kC.lam _ _ T.lt_Ldeeds_right hD1, fun H20 k20 R20 => ?_⟩
    exact q _ (k1.off2 (kC.trans k20) x0 q0)
end
end Ap


namespace Ap
open PySem L2 PySem.Spec PyProof.Rows
theorem perm_ints {ys : List V} {l : List Int} (h : ys.Perm (l.map V.int)) : ∃ cs : List Int, ys = cs.map V.int ∧ cs.Perm l := by
  let f : V → Int := fun v => match v with
    | .int i => i
    | _ => 0
  have e : (l.map V.int).map f = l := by rw [List.map_map]; exact List.map_id l
  refine ⟨ys.map f, ?_, by rw [← e]; exact h.map f⟩
  rw [List.map_map]
  have : ∀ v ∈ ys, (V.int ∘ f) v = v := fun v hv => by
    obtain ⟨i, _, rfl⟩ := List.mem_map.mp (h.mem_iff.mp hv)
    rfl
  exact ((List.map_congr_left (g := id) this).trans (List.map_id ys)).symm
theorem s312 : Stand 3 [3, 1, 2] := by unfold Stand; decide +kernel
theorem s123 : Stand 3 [1, 2, 3] := by unfold Stand; decide +kernel
theorem s213 : Stand 3 [2, 1, 3] := by unfold Stand; decide +kernel
section
variable {P : Program} {w : World} {K : PySem.W.Frag} {mg : Str → Option Value} {base : Heap}
theorem ok_law (T : Txt P K mg base) : FnG P w K mg base CX0 13 T.a_law T.fd_law ["_law_script"] (spLaw0 K T.tbs) := by
  refine fnG_of0 T.F_law sc_law (fun vs H Q E h => ?_) (fun cdv A outer s H vs Q E hcd hr gd h => ?_)
  · obtain ⟨a, ns, rfl, _⟩ := h
    rfl
  · obtain ⟨a, ns, rfl, ha, hn, hT0, q⟩ := h
    have hT : Tabs T.tbs H := fun b hb => ⟨#[], hT0 b hb, trip0⟩
    have hLm : LamX.TabS H T.p_Lmade_right (("_law_made_right" : Str) ++ ".<locals>." ++ "<lambda>") := LamX.TabS.nil (hT0 _ (by simp [Txt.tbs]))
    have hLd : LamX.TabS H T.p_Ldeeds_right (("_law_deeds_right" : Str) ++ ".<locals>." ++ "<lambda>") := LamX.TabS.nil (hT0 _ (by simp [Txt.tbs]))
    have hLr : LamX.TabS H T.p_Lright (("_law_right" : Str) ++ ".<locals>." ++ "<lambda>") := LamX.TabS.nil (hT0 _ (by simp [Txt.tbs]))
    refine ⟨_, (Evl.pss_cut (ps_for PassesOwn.never rfl (pi_list (pe_lc (own := [("_law_cell", 7)]) (g := gName 7) (tt := tYes) rfl sc_law.nd (pi_list (pe_op op_cat (pe_slice sl_list (pv 0) po_none (po_some pe_int)) (pe_lst (pa_cons pe_int pa_nil)))) (blkOk_by (N := ["_law_script", "_law_draws_here", "_law_seats", "_law_ties", "_law_standing", "_law_order", "_law_before", "_law_cell"]) (sc := defScope s_law) (by decide +kernel)) (fun _ _ _ _ _ => (pg_name (i := 7) sc_law.nd rfl (Or.inl rfl))) (fun _ _ _ _ _ => pts_nil) (fun _ _ _ _ _ => (pe_callG (ok_Ldraws T) (hr.mono (by decide)) gd rfl T.m_Ldraws T.F_Ldraws.kp T.b_Ldraws .nil pass0 (pa_cons (pv 7) pa_nil))))) (pg_name (i := 1) sc_law.nd rfl (Or.inl rfl))
      (pss_cons (ps_asg (pe_callG (ok_Lnet T) (hr.mono (by decide)) gd rfl T.m_Lnet T.F_Lnet.kp T.b_Lnet .nil pass0 (pa_cons (pv 1) (pa_cons pe_int pa_nil))) (pg_tup rfl (pgs_cons (pg_name (i := 2) sc_law.nd rfl (Or.inl rfl)) (pgs_cons (pg_name (i := 3) sc_law.nd rfl (Or.inl rfl)) pgs_nil))))
      (pss_cons (ps_par (i := 4) (j := 5) (by rfl) sc_law.nd rfl rfl (by decide) rfl rfl (pa_cons (pe_callG (ok_Lmixed T) (hr.mono (by decide)) gd rfl T.m_Lmixed T.F_Lmixed.kp T.b_Lmixed .nil pass0 (pa_cons (pv 1) (pa_cons (pe_listRg rfl rfl T.n_list (prg_2 rfl T.n_range pe_int (pe_op op_add (pv 2) pe_int))) pa_nil))) (pa_cons (pe_callG (ok_Lmixed T) (hr.mono (by decide)) gd rfl T.m_Lmixed T.F_Lmixed.kp T.b_Lmixed .nil pass0 (pa_cons (pv 1) (pa_cons (pe_listRg rfl rfl T.n_list (prg_2 rfl T.n_range pe_int (pe_op op_add (pv 2) pe_int))) pa_nil))) pa_nil)) (by rfl))
      (pss_cons (ps_set (i := 6) sc_law.nd rfl (Or.inl rfl) (pe_callB (cr_repr hr gd) (by rfl) T.n_repr (by decide +kernel) (pa_cons (pe_lst (pa_cons (pv 3) (pa_cons (pv 4) (pa_cons (pv 5) pa_nil)))) pa_nil)))
      (pss_cons (ps_if (PW.pt (pw_or (pt_not (pt_val (pe_callG (ok_Lmade_right T) (hr.mono (by decide)) gd rfl T.m_Lmade_right T.F_Lmade_right.kp T.b_Lmade_right .nil pass0 (pa_cons (pv 2) (pa_cons (pv 3) (pa_cons (pv 4) pa_nil)))))) (pw_or1 (pt_not (pt_val (pe_callG (ok_Lright T) (hr.mono (by decide)) gd rfl T.m_Lright T.F_Lright.kp T.b_Lright .nil pass0 (pa_cons (pv 2) (pa_cons (pv 3) (pa_cons (pv 4) (pa_cons (pv 5) pa_nil))))))))))
        (pss_one (ps_ret pe_bl))
        pss_nil)
      (pss_one (ps_if (pt_cmpR op_ne (pe_callB (cr_repr hr gd) (by rfl) T.n_repr (by decide +kernel) (pa_cons (pe_lst (pa_cons (pv 3) (pa_cons (pv 4) (pa_cons (pv 5) pa_nil)))) pa_nil)) (pv 6) (nomark _))
        (pss_one (ps_ret pe_bl))
        pss_nil)))))))
    (pss_one (ps_ret (pe_and (pe_callG (ok_Lmade_right T) (hr.mono (by decide)) gd rfl T.m_Lmade_right T.F_Lmade_right.kp T.b_Lmade_right .nil pass0 (pa_cons pe_int (pa_cons (pe_lst pa_nil) (pa_cons (pe_lst (pa_cons pe_int (pa_cons pe_int (pa_cons pe_int pa_nil)))) pa_nil)))) (pe_one (pe_callG (ok_Lright T) (hr.mono (by decide)) gd rfl T.m_Lright T.F_Lright.kp T.b_Lright .nil pass0 (pa_cons pe_int (pa_cons (pe_lst (pa_cons (pe_lst (pa_cons pe_int (pa_cons pe_int pa_nil))) pa_nil)) (pa_cons (pe_lst (pa_cons pe_int (pa_cons pe_int (pa_cons pe_int pa_nil)))) (pa_cons (pe_lst (pa_cons pe_int (pa_cons pe_int (pa_cons pe_int pa_nil)))) pa_nil)))))))))), ?_⟩
    rw [show start ["_law_script", "_law_draws_here", "_law_seats", "_law_ties", "_law_standing", "_law_order", "_law_before", "_law_cell"] [.ref a] = [some (.ref a), none, none, none, none, none, none, none] from rfl]
    refine g_cut (fun σ' H' => ∃ (x1 x2 x3 x4 x5 x6 x7 : Option V), σ' = [some (.ref a), x1, x2, x3, x4, x5, x6, x7] ∧ Kp [] H H') ?_ ?_
    · walk_at "go"
      refine ⟨a, ns.map V.int, rfl, ha, fun sl hsl => ?_⟩
      rw [cut_any (i := 3) (k := 3) rfl, ← List.map_take]
      walk_at "go"
      rename_i z hz
      have slz : sl ≠ z := ne_of_none (o := .lst ((ns.take 3).map V.int)) upd_same hz
      have hK1 : Kp [] H (upd H sl (.lst ((ns.take 3).map V.int))) := (Kp.refl _ _).put hsl
      have hK2 := hK1.put (o := .lst [.int 0]) (hK1.free hz)
      have e1 : (upd (upd H sl (.lst ((ns.take 3).map V.int))) z (.lst [.int 0])) sl = some (.lst ((ns.take 3).map V.int)) := by rw [upd_ne slz]; exact upd_same
      have e2 : (upd (upd H sl (.lst ((ns.take 3).map V.int))) z (.lst [.int 0])) z = some (.lst [.int 0]) := upd_same
      generalize upd (upd H sl (.lst ((ns.take 3).map V.int))) z (.lst [.int 0]) = G0 at *
      refine g_cat e1 e2 (triv_sz (by rw [List.length_map, List.length_take]; simp; omega)) fun c hc => ?_
      have hK0 := hK2.put (o := .lst ((ns.take 3).map V.int ++ [.int 0])) (hK2.free hc)
      have hc1 : (upd G0 c (.lst ((ns.take 3).map V.int ++ [.int 0]))) c = some (.lst ((ns.take 3 ++ [0]).map V.int)) := by rw [upd_same, List.map_append]; rfl
      generalize upd G0 c (.lst ((ns.take 3).map V.int ++ [.int 0])) = G1 at *
      clear hK1 hK2 e1 e2 slz hz hsl hc
      have len4 : (ns.take 3 ++ [0]).length ≤ 4 := by rw [List.length_append, List.length_take]; simp; omega
      generalize ns.take 3 ++ [0] = cs at hc1 len4 ⊢
      walk_at "go"
      refine g_lc (walk_list (xs := cs.map V.int)) (w0 := [some (.ref a), none, none, none, none, none, none, none]) rfl fun D hD =>
        ⟨fun j G => ∃ dl : List Addr, dl.length = j ∧ DH H dl D 0 G ∧ G c = some (.lst (cs.map V.int)),
          ⟨[], rfl, ⟨hK0.put (hK0.free hD), upd_same, fun _ z => (nomatch z)⟩, by rw [upd_ne (ne_of_none hc1 hD)]; exact hc1⟩, fun j G _ h => ?_, ?_, ?_⟩
      · obtain ⟨_, _, _, h⟩ := h
        exact SqL.of h
      · rintro j x G G' hj ⟨dl, hn2, hDH, hcc⟩ ⟨rfl, hx⟩
        rw [List.getElem?_map] at hx
        obtain ⟨i0, hi0, rfl⟩ := Option.map_eq_some_iff.mp hx
        rw [List.length_map] at hj
        walk_at "go"
        refine g_kLg rfl ?_
        walk_at "go"
        refine ⟨i0, rfl, fun d dst G2 hd hK2 hdr hdk _ => ?_⟩
        have hD2 := hDH.keep hK2 (M' := 0) (Nat.le_refl _)
        have dD : d ≠ D := fun e => by rw [e, hDH.l] at hd; cases hd
        have HD := hK0.free hD
        have Dd : D ≠ c := fun e => by rw [e, hc1] at hD; cases hD
        refine g_kLe hD2.l (triv_szl (by rw [List.length_map]; omega)) ⟨dl ++ [d], by rw [List.length_append, hn2]; rfl, ⟨hD2.kp.put HD (NC.some hD2.l rfl), by rw [List.map_append]; exact upd_same, fun e he => ?_⟩, by rw [upd_ne (Ne.symm Dd)]; exact hK2.lst nin0 hcc⟩
        rcases List.mem_append.mp he with he | he
        · obtain ⟨a1, a2, a3⟩ := hD2.ds e he
          exact ⟨a1, a2, a3.put a2⟩
        · obtain rfl := List.mem_singleton.mp he
          exact ⟨hDH.kp.free hd, dD, Draws.put ⟨dst, hdr, hdk⟩ dD⟩
      · rintro G ⟨dl, hn2, hDH, hcc⟩
        rw [List.length_map] at hn2
        walk_at "go"
        refine g_kIL hDH.l ?_
        refine g_forL (xs := dl.map V.ref) (fun i σ' G => ∃ (x1 x2 x3 x4 x5 x6 x7 : Option V), σ' = [some (.ref a), x1, x2, x3, x4, x5, x6, x7] ∧ DH H dl D (40000 * i) G)
          ⟨_, _, _, _, _, _, _, rfl, hDH⟩ (fun i σ' G _ h => by obtain ⟨_, _, _, _, _, _, _, _, h⟩ := h; exact SqL.of h.l) ?_ ?_
        · clear hDH hcc G
          rintro i x σ' G hi ⟨x1, x2, x3, x4, x5, x6, x7, rfl, hDH⟩
          rw [List.getElem?_map] at hi
          obtain ⟨d, hd, rfl⟩ := Option.map_eq_some_iff.mp hi
          have il := (List.getElem?_eq_some_iff.mp hd).1
          have din := List.mem_of_getElem? hd
          walk_at "go"
          obtain ⟨d1, d2, d3⟩ := hDH.ds d din
          have dne : G d ≠ none := d3.ne
          have Mle : 40000 * i + 40000 < 2 ^ 40 := by omega
          generalize eM : 40000 * i = M at *
          refine ⟨d, M, 7, rfl, d3, by omega, by decide, by decide, fun pp tp n ts G1 n3 nm hS pp0 epp htp k1 e1 => ?_⟩
          have n40 : n ≤ 40 := by omega
          walk_at "go"
          rename_i pl hpl
          rw [rgV_up]
          refine ⟨d, pl, M + 2000, (up n).map V.int, rfl, e1.new hpl, upd_same, fun z => e1.ne (by rw [← z]; exact hpl), by rw [List.length_map, up_length]; omega, by rw [List.length_map, up_length]; omega, fun st ys G2 st0 perm k2 e2 est => ?_⟩
          obtain ⟨row, rfl, hrow⟩ := perm_ints perm
          have hrow : Stand n row := hrow
          rw [List.length_map, up_length] at e2
          have kp : Kp [] G1 (upd G1 pl (.lst ((up n).map V.int))) := (Kp.refl _ _).put hpl
          have kk : Kp [d] G G2 := k1.trans (kp.any.trans k2)
          have htp : Da (fun b => G b = none) G2 (.ref tp) (netD ts) := (htp.keep kp (fun _ _ => nin0) fun _ h => h).keep k2 (fun b hb => nin1 fun z => dne (z ▸ hb)) fun _ h => h
          have st1 : G st = none := k1.free (kp.free st0)
          clear kp k1 k2 e1 epp pp0 hpl
          walk_at "go"
          rename_i pl2 hpl2
          rw [rgV_up]
          refine ⟨d, pl2, M + 2000 + n, (up n).map V.int, rfl, e2.new hpl2, upd_same, fun z => e2.ne (by rw [← z]; exact hpl2), by rw [List.length_map, up_length]; omega, by rw [List.length_map, up_length]; omega, fun op ys G3 op0 perm2 k3 e3 eop => ?_⟩
          obtain ⟨ord, rfl, hord⟩ := perm_ints perm2
          have hord : Stand n ord := hord
          rw [List.length_map, up_length] at e3
          have kp : Kp [] G2 (upd G2 pl2 (.lst ((up n).map V.int))) := (Kp.refl _ _).put hpl2
          have kK : Kp [d] G G3 := kk.trans (kp.any.trans k3)
          have htp : Da (fun b => G b = none) G3 (.ref tp) (netD ts) := (htp.keep kp (fun _ _ => nin0) fun _ h => h).keep k3 (fun b hb => nin1 fun z => dne (z ▸ hb)) fun _ h => h
          have est := k3.lst (nin1 fun z => dne (z ▸ st1)) (kp.lst nin0 est)
          have hDH3 := hDH.step kK e3 (by omega) din
          clear kp k3 kk hpl2 e2 perm perm2 hDH hi
          have hN : Nt G3 (.ref tp) ts := htp.imp fun _ _ => trivial
          have shN := Shw.net hS n40 (hS.few n40)
          have shA : Shw (.list [netD ts, intsD row, intsD ord]) ((20000 + 2) * 3 + 2) 3 := Shw.list (fun y hy => by
            simp only [List.mem_cons, List.not_mem_nil, or_false] at hy
            rcases hy with rfl | rfl | rfl
            · exact shN
            · exact Shw.stand hrow n40
            · exact Shw.stand hord n40) (Nat.le_refl _)
          walk_at "go"
          rename_i w1 hw1
          have k4 : Kp [] G3 (upd G3 w1 (.lst [.ref tp, .ref st, .ref op])) := Kp.new hw1
          refine g_rep (dp_three upd_same (Da.kp0 hN k4).dp (dp_ints (k4.lst nin0 est)) (dp_ints (k4.lst nin0 eop))) shA (by decide) (by decide) ?_
          generalize upd G3 w1 _ = G4 at *
          have tb := hDH3.kp.trans k4
          walk_at "go"
          refine ⟨n, tp, st, ts, row, rfl, n3, n40, hS, Da.kp0 hN k4, k4.lst nin0 est, hrow, tb.tabs hT, tb.lam _ _ T.lt_Lmade_right hLm, fun G5 k5 => ?_⟩
          have k45 := k4.trans k5
          have tb := hDH3.kp.trans k45
          walk_at "go"
          refine ⟨n, tp, st, op, ts, row, ord, rfl, n3, n40, hS, Da.kp0 hN k45, k45.lst nin0 est, hrow, k45.lst nin0 eop, hord, tb.tabs hT, tb.lam _ _ T.lt_Lright hLr, tb.lam _ _ T.lt_Ldeeds_right hLd, fun G6 k6 => ?_⟩
          have k46 := k45.trans k6
          walk_at "go"
          rename_i w2 hw2
          have k7 := k46.put (o := .lst [.ref tp, .ref st, .ref op]) (k46.free hw2)
          refine g_rep (dp_three upd_same (Da.kp0 hN k7).dp (dp_ints (k7.lst nin0 est)) (dp_ints (k7.lst nin0 eop))) shA (by decide) (by decide) ?_
          walk_at "go"
          refine g_kNX rfl ?_
          walk_at "go"
          exact ⟨_, _, _, _, _, _, _, rfl, hDH3.keep k7 (by omega)⟩
        · rintro σ' G ⟨x1, x2, x3, x4, x5, x6, x7, rfl, hDH⟩
          walk_at "go"
          exact ⟨_, _, _, _, _, _, _, rfl, hDH.kp⟩
    rintro σ' G ⟨x1, x2, x3, x4, x5, x6, x7, rfl, hK⟩
    walk_at "go"
    rename_i t1 ht1 r1 hr1
    have k1 : Kp [] G (upd G t1 (.lst [])) := (Kp.refl _ _).put ht1
    have k2 := k1.put (o := .lst [.int 3, .int 1, .int 2]) (k1.free hr1)
    have et : upd (upd G t1 (.lst [])) r1 (.lst [.int 3, .int 1, .int 2]) t1 = some (.lst []) := by walk_at "look"
    have tb := hK.trans k2
    refine ⟨3, t1, r1, [], [3, 1, 2], rfl, by decide, by decide, NetS.nil _, .lst trivial et .nil, upd_same, s312, tb.tabs hT, tb.lam _ _ T.lt_Lmade_right hLm, fun G1 k3 => ?_⟩
    have tb := tb.trans k3
    clear et ht1 hr1 k1 k2 k3 hK
    walk_at "go"
    rename_i p1 h1 t1 ht1 r1 hr1 o1 ho1
    have k1 : Kp [] G1 (upd G1 p1 (.lst [.int 1, .int 2])) := (Kp.refl _ _).put h1
    have k2 := k1.put (o := .lst [.ref p1]) (k1.free ht1)
    have k3 := k2.put (o := .lst [.int 1, .int 2, .int 3]) (k2.free hr1)
    have k4 := k3.put (o := .lst [.int 2, .int 1, .int 3]) (k3.free ho1)
    have tb := tb.trans k4
    refine ⟨3, t1, r1, o1, [(1, 2)], [1, 2, 3], [2, 1, 3], rfl, by decide, by decide, ⟨by decide +kernel, List.pairwise_singleton _ _⟩, .lst trivial (by walk_at "look") (.cons (.lst trivial (by walk_at "look") (.cons (.int _) (.cons (.int _) .nil))) .nil), by walk_at "look", s123, upd_same, s213, tb.tabs hT, tb.lam _ _ T.lt_Lright hLr, tb.lam _ _ T.lt_Ldeeds_right hLd, fun G2 k5 => ?_⟩
    exact q G2
end
end Ap



namespace Ap
open PySem L2 PySem.Spec PyProof.Rows
theorem code_of_tab {K : PySem.W.Frag} {x : Str} {f c p : Addr} {oc : Value} {od : Option Addr} {fd : FuncData} {sl : Array (Option Value)} (a : PySem.W.nsIn K mainGlobals x = some (some (.ref f))) (l : K.lookup f = some ⟨oc, od, .func fd, sl⟩) (t : PySem.W.tabIn K x = some (c, p)) : fd.code = .ref c := by
  unfold PySem.W.tabIn at t
  rw [a] at t
  simp only [l] at t
  split at t
  · rename_i c' hc
    split at t
    · split at t
      · cases t; exact hc
      · cases t
    · cases t
  · cases t
theorem tab_mk {K : PySem.W.Frag} {x : Str} {f c p : Addr} {oc tc : Value} {od td : Option Addr} {fd : FuncData} {sl ts : Array (Option Value)} {tv : Array Value} (a : PySem.W.nsIn K mainGlobals x = some (some (.ref f))) (l : K.lookup f = some ⟨oc, od, .func fd, sl⟩) (e : fd.code = .ref c) (d : K.lookup c = some ⟨tc, td, .fields tv, ts⟩) (q : (tv[11]? : Option Value) = some (.ref p)) : PySem.W.tabIn K x = some (c, p) := by
  unfold PySem.W.tabIn
  rw [a]
  simp only [l, e, d, q]
theorem kbn_back {K : PySem.W.Frag} {x qual : Str} {st : Stmt} {f : Addr} {fd : FuncData} {ps ks : List Str} (F : Fun K x qual st f fd)
    (h : ∀ (kV doc pm : Value) (an : Option Addr) (cdv ct : Value) (us ws : List Value), us.length = 1 → ws.length = ks.length → bindArgs (PySem.W.fnOf x qual (defArgs st) (defBody st) (defScope st) .none kV doc pm an cdv ct) ⟨us, ks.zip ws⟩ = pure (ps.zip (us ++ ws.reverse))) :
    KBn K fd ps 1 ks (fun us ws => us ++ ws.reverse) (fun us ws => us ++ ws.reverse) := by
  obtain ⟨oc, od, kV, doc, pm, an, cdv, ct, osl, rfl, lk, hcd⟩ := F.ex
  exact ⟨fun s us ws _ h1 h2 => .of_eq (h _ _ _ _ _ _ us ws h1 h2), fun r1 r2 => r1.append r2.reverse⟩
theorem kit_own {K : PySem.W.Frag} {S : Addr} {x : String} (hm : PySem.W.kitMeta x = true) (h : PySem.W.subIn K (.ref S) (.type x) = some true) : PySem.W.kitOne K (.ref S) (.type x) = some true := by
  unfold PySem.W.kitOne
  split
  · rfl
  · show (if PySem.W.kitMeta x = true then PySem.W.subIn K (.ref S) (.type x) else none) = some true
    rw [if_pos hm]
    exact h
theorem kit_bi {K : PySem.W.Frag} {S : Addr} {x : String} {b : Bool} (h : PySem.W.subIn K (.ref S) (.type x) = some b) (hm : PySem.W.kitMeta x = true := by rfl) : PySem.W.kitOne K (.ref S) (.type x) = some b := by
  unfold PySem.W.kitOne
  rw [if_neg (show ¬ ((Value.ref S == Value.type x) = true) from fun z => nomatch z)]
  show (if PySem.W.kitMeta x = true then PySem.W.subIn K (.ref S) (.type x) else none) = some b
  rw [if_pos hm]
  exact h
theorem kit_yes {K : PySem.W.Frag} {S : Addr} : PySem.W.kitOne K (.ref S) (.ref S) = some true := by
  unfold PySem.W.kitOne
  rw [if_pos (by simp)]
theorem kit_no {K : PySem.W.Frag} {S Y : Addr} (h : PySem.W.subIn K (.ref S) (.ref Y) = some false) (s : PySem.W.subIn K (.ref S) (.ref S) = some true) (c : PySem.W.isClsIn K Y = true) (t : PySem.W.typeIn K (.ref Y) = some (.type "type")) : PySem.W.kitOne K (.ref S) (.ref Y) = some false := by
  have c' : (PySem.W.clsIn K Y).isSome = true := c
  have ne : ¬ ((Value.ref S == Value.ref Y) = true) := fun z => by
    have z : Value.ref S = Value.ref Y := by simpa using z
    cases z
    rw [s] at h
    cases h
  unfold PySem.W.kitOne
  rw [if_neg ne]
  show (if ((PySem.W.clsIn K Y).isSome && PySem.W.typeIn K (.ref Y) == some (.type "type")) = true then PySem.W.subIn K (.ref S) (.ref Y) else none) = some false
  rw [c', t, h]
  rfl
theorem exm_own {K : PySem.W.Frag} {S : Addr} (a : PySem.W.subIn K (.ref S) (.type "BaseException") = some true) (b : PySem.W.isClsIn K S = true) (c : PySem.W.typeIn K (.ref S) = some (.type "type")) (d : PySem.W.subIn K (.ref S) (.ref S) = some true) : PySem.W.exmOne K (.ref S) (.ref S) = some true := by
  have b' : (PySem.W.clsIn K S).isSome = true := b
  show (if (PySem.W.subIn K (.ref S) (.type "BaseException") == some true) = true then (if ((PySem.W.clsIn K S).isSome && PySem.W.typeIn K (.ref S) == some (.type "type")) = true then PySem.W.subIn K (.ref S) (.ref S) else none) else none) = some true
  rw [a, b', c, d]
  rfl
theorem trip_nil : TriplesOk (#[] : Array Value).toList := by
  first | trivial | exact .nil | constructor | decide
theorem law_is {l : PySem.W.OpenLaw} {w : World} {K : PySem.W.Frag} {mg mb : Str → Option Value} {fa : Addr} {h : Heap} {q : Program} {loose : List Str} {mean : ExcName → Option Value} (X : K.In h) (T0 : PyProof.Rows.Top q loose mean mg mb h) (hfa : mg "law" = some (.ref fa))
    (z_LookupError : PySem.W.nsIn K mainGlobals "LookupError" = some none)
    (z_ValueError : PySem.W.nsIn K mainGlobals "ValueError" = some none)
    (z_all : PySem.W.nsIn K mainGlobals "all" = some none)
    (z_bool : PySem.W.nsIn K mainGlobals "bool" = some none)
    (z_enumerate : PySem.W.nsIn K mainGlobals "enumerate" = some none)
    (z_int : PySem.W.nsIn K mainGlobals "int" = some none)
    (z_isinstance : PySem.W.nsIn K mainGlobals "isinstance" = some none)
    (z_len : PySem.W.nsIn K mainGlobals "len" = some none)
    (z_list : PySem.W.nsIn K mainGlobals "list" = some none)
    (z_max : PySem.W.nsIn K mainGlobals "max" = some none)
    (z_min : PySem.W.nsIn K mainGlobals "min" = some none)
    (z_range : PySem.W.nsIn K mainGlobals "range" = some none)
    (z_repr : PySem.W.nsIn K mainGlobals "repr" = some none)
    (z_set : PySem.W.nsIn K mainGlobals "set" = some none)
    (z_tuple : PySem.W.nsIn K mainGlobals "tuple" = some none)
    (z_zip : PySem.W.nsIn K mainGlobals "zip" = some none)
    {t_FEWEST_SEATS : Tok} (z_FEWEST_SEATS : PySem.W.nsIn K mainGlobals "FEWEST_SEATS" = some (some (.int 3 t_FEWEST_SEATS)))
    {t_MOST_SEATS : Tok} (z_MOST_SEATS : PySem.W.nsIn K mainGlobals "MOST_SEATS" = some (some (.int 40 t_MOST_SEATS)))
    {C_Room : Addr}
    (jc_Room : PySem.W.nsIn K mainGlobals "Room" = some (some (.ref C_Room)))
    (jp_Room : PySem.W.plainGet K C_Room Str.empty = true)
    (jd_Room : PySem.W.hasDictIn K C_Room = true)
    (jo_Room : PySem.W.plainOver K C_Room = true)
    (js_Room : PySem.W.findIn K (.ref C_Room) "__setattr__" = some (some (.builtin "object.__setattr__")))
    (jm_Room : PySem.W.makesIn K C_Room = true)
    (jk_Room : PySem.W.keepIn K (.ref C_Room) = true)
    (ja_Room_many : PySem.W.findIn K (.ref C_Room) "many" = some none)
    (ja_Room_pairs : PySem.W.findIn K (.ref C_Room) "pairs" = some none)
    (ja_Room_near : PySem.W.findIn K (.ref C_Room) "near" = some none)
    (ja_Room_row : PySem.W.findIn K (.ref C_Room) "row" = some none)
    (ja_Room_changed : PySem.W.findIn K (.ref C_Room) "changed" = some none)
    (ja_Room_past : PySem.W.findIn K (.ref C_Room) "past" = some none)
    {f_Room___init__ : Addr}
    {od_Room___init__ an_Room___init__ : Option Addr}
    {sl_Room___init__ : Array (Option Value)}
    {oc_Room___init__ kV_Room___init__ dc_Room___init__ pm_Room___init__ cd_Room___init__ ct_Room___init__ : Value}
    (ja_Room___init__ : PySem.W.findIn K (.ref C_Room) "__init__" = some (some (.ref f_Room___init__)))
    (ji_Room___init__ : PySem.W.isFn K (.ref f_Room___init__) = true)
    (l_Room___init__ : K.lookup f_Room___init__ = some ⟨oc_Room___init__, od_Room___init__, .func (PySem.W.fnOf "__init__" "Room.__init__" (defArgs s_Room___init__) (defBody s_Room___init__) (defScope s_Room___init__) .none kV_Room___init__ dc_Room___init__ pm_Room___init__ an_Room___init__ cd_Room___init__ ct_Room___init__), sl_Room___init__⟩)
    (c_Room___init__ : PySem.W.codeIn K cd_Room___init__ "Room.__init__" = true)
    (k_Room___init__ : PySem.W.keepIn K (.ref f_Room___init__) = true)
    {f_Room_seats : Addr}
    {od_Room_seats an_Room_seats : Option Addr}
    {sl_Room_seats : Array (Option Value)}
    {oc_Room_seats kV_Room_seats dc_Room_seats pm_Room_seats cd_Room_seats ct_Room_seats : Value}
    {q_Room_seats : Addr}
    {rest_Room_seats : List Value}
    (ja_Room_seats : PySem.W.findIn K (.ref C_Room) "seats" = some (some (.ref q_Room_seats)))
    (jg_Room_seats : PySem.W.specialIn K (.ref q_Room_seats) "__get__" = some (some (.builtin "property.__get__")))
    (jt_Room_seats : PySem.W.takesIn K (.ref q_Room_seats) = some true)
    (jr_Room_seats : PySem.W.recIn K q_Room_seats "property" = some (.ref f_Room_seats :: rest_Room_seats))
    (l_Room_seats : K.lookup f_Room_seats = some ⟨oc_Room_seats, od_Room_seats, .func (PySem.W.fnOf "seats" "Room.seats" (defArgs s_Room_seats) (defBody s_Room_seats) (defScope s_Room_seats) .none kV_Room_seats dc_Room_seats pm_Room_seats an_Room_seats cd_Room_seats ct_Room_seats), sl_Room_seats⟩)
    (c_Room_seats : PySem.W.codeIn K cd_Room_seats "Room.seats" = true)
    (k_Room_seats : PySem.W.keepIn K (.ref f_Room_seats) = true)
    {f_Room_ties : Addr}
    {od_Room_ties an_Room_ties : Option Addr}
    {sl_Room_ties : Array (Option Value)}
    {oc_Room_ties kV_Room_ties dc_Room_ties pm_Room_ties cd_Room_ties ct_Room_ties : Value}
    {q_Room_ties : Addr}
    {rest_Room_ties : List Value}
    (ja_Room_ties : PySem.W.findIn K (.ref C_Room) "ties" = some (some (.ref q_Room_ties)))
    (jg_Room_ties : PySem.W.specialIn K (.ref q_Room_ties) "__get__" = some (some (.builtin "property.__get__")))
    (jt_Room_ties : PySem.W.takesIn K (.ref q_Room_ties) = some true)
    (jr_Room_ties : PySem.W.recIn K q_Room_ties "property" = some (.ref f_Room_ties :: rest_Room_ties))
    (l_Room_ties : K.lookup f_Room_ties = some ⟨oc_Room_ties, od_Room_ties, .func (PySem.W.fnOf "ties" "Room.ties" (defArgs s_Room_ties) (defBody s_Room_ties) (defScope s_Room_ties) .none kV_Room_ties dc_Room_ties pm_Room_ties an_Room_ties cd_Room_ties ct_Room_ties), sl_Room_ties⟩)
    (c_Room_ties : PySem.W.codeIn K cd_Room_ties "Room.ties" = true)
    (k_Room_ties : PySem.W.keepIn K (.ref f_Room_ties) = true)
    {f_Room_standing : Addr}
    {od_Room_standing an_Room_standing : Option Addr}
    {sl_Room_standing : Array (Option Value)}
    {oc_Room_standing kV_Room_standing dc_Room_standing pm_Room_standing cd_Room_standing ct_Room_standing : Value}
    {q_Room_standing : Addr}
    {rest_Room_standing : List Value}
    (ja_Room_standing : PySem.W.findIn K (.ref C_Room) "standing" = some (some (.ref q_Room_standing)))
    (jg_Room_standing : PySem.W.specialIn K (.ref q_Room_standing) "__get__" = some (some (.builtin "property.__get__")))
    (jt_Room_standing : PySem.W.takesIn K (.ref q_Room_standing) = some true)
    (jr_Room_standing : PySem.W.recIn K q_Room_standing "property" = some (.ref f_Room_standing :: rest_Room_standing))
    (l_Room_standing : K.lookup f_Room_standing = some ⟨oc_Room_standing, od_Room_standing, .func (PySem.W.fnOf "standing" "Room.standing" (defArgs s_Room_standing) (defBody s_Room_standing) (defScope s_Room_standing) .none kV_Room_standing dc_Room_standing pm_Room_standing an_Room_standing cd_Room_standing ct_Room_standing), sl_Room_standing⟩)
    (c_Room_standing : PySem.W.codeIn K cd_Room_standing "Room.standing" = true)
    (k_Room_standing : PySem.W.keepIn K (.ref f_Room_standing) = true)
    {f_Room_changes : Addr}
    {od_Room_changes an_Room_changes : Option Addr}
    {sl_Room_changes : Array (Option Value)}
    {oc_Room_changes kV_Room_changes dc_Room_changes pm_Room_changes cd_Room_changes ct_Room_changes : Value}
    {q_Room_changes : Addr}
    {rest_Room_changes : List Value}
    (ja_Room_changes : PySem.W.findIn K (.ref C_Room) "changes" = some (some (.ref q_Room_changes)))
    (jg_Room_changes : PySem.W.specialIn K (.ref q_Room_changes) "__get__" = some (some (.builtin "property.__get__")))
    (jt_Room_changes : PySem.W.takesIn K (.ref q_Room_changes) = some true)
    (jr_Room_changes : PySem.W.recIn K q_Room_changes "property" = some (.ref f_Room_changes :: rest_Room_changes))
    (l_Room_changes : K.lookup f_Room_changes = some ⟨oc_Room_changes, od_Room_changes, .func (PySem.W.fnOf "changes" "Room.changes" (defArgs s_Room_changes) (defBody s_Room_changes) (defScope s_Room_changes) .none kV_Room_changes dc_Room_changes pm_Room_changes an_Room_changes cd_Room_changes ct_Room_changes), sl_Room_changes⟩)
    (c_Room_changes : PySem.W.codeIn K cd_Room_changes "Room.changes" = true)
    (k_Room_changes : PySem.W.keepIn K (.ref f_Room_changes) = true)
    {f_Room___len__ : Addr}
    {od_Room___len__ an_Room___len__ : Option Addr}
    {sl_Room___len__ : Array (Option Value)}
    {oc_Room___len__ kV_Room___len__ dc_Room___len__ pm_Room___len__ cd_Room___len__ ct_Room___len__ : Value}
    (ja_Room___len__ : PySem.W.findIn K (.ref C_Room) "__len__" = some (some (.ref f_Room___len__)))
    (ji_Room___len__ : PySem.W.isFn K (.ref f_Room___len__) = true)
    (l_Room___len__ : K.lookup f_Room___len__ = some ⟨oc_Room___len__, od_Room___len__, .func (PySem.W.fnOf "__len__" "Room.__len__" (defArgs s_Room___len__) (defBody s_Room___len__) (defScope s_Room___len__) .none kV_Room___len__ dc_Room___len__ pm_Room___len__ an_Room___len__ cd_Room___len__ ct_Room___len__), sl_Room___len__⟩)
    (c_Room___len__ : PySem.W.codeIn K cd_Room___len__ "Room.__len__" = true)
    (k_Room___len__ : PySem.W.keepIn K (.ref f_Room___len__) = true)
    {f_Room_make : Addr}
    {od_Room_make an_Room_make : Option Addr}
    {sl_Room_make : Array (Option Value)}
    {oc_Room_make kV_Room_make dc_Room_make pm_Room_make cd_Room_make ct_Room_make : Value}
    (ja_Room_make : PySem.W.findIn K (.ref C_Room) "make" = some (some (.ref f_Room_make)))
    (ji_Room_make : PySem.W.isFn K (.ref f_Room_make) = true)
    (l_Room_make : K.lookup f_Room_make = some ⟨oc_Room_make, od_Room_make, .func (PySem.W.fnOf "make" "Room.make" (defArgs s_Room_make) (defBody s_Room_make) (defScope s_Room_make) .none kV_Room_make dc_Room_make pm_Room_make an_Room_make cd_Room_make ct_Room_make), sl_Room_make⟩)
    (c_Room_make : PySem.W.codeIn K cd_Room_make "Room.make" = true)
    (k_Room_make : PySem.W.keepIn K (.ref f_Room_make) = true)
    {f_Room_call : Addr}
    {od_Room_call an_Room_call : Option Addr}
    {sl_Room_call : Array (Option Value)}
    {oc_Room_call kV_Room_call dc_Room_call pm_Room_call cd_Room_call ct_Room_call : Value}
    (ja_Room_call : PySem.W.findIn K (.ref C_Room) "call" = some (some (.ref f_Room_call)))
    (ji_Room_call : PySem.W.isFn K (.ref f_Room_call) = true)
    (l_Room_call : K.lookup f_Room_call = some ⟨oc_Room_call, od_Room_call, .func (PySem.W.fnOf "call" "Room.call" (defArgs s_Room_call) (defBody s_Room_call) (defScope s_Room_call) .none kV_Room_call dc_Room_call pm_Room_call an_Room_call cd_Room_call ct_Room_call), sl_Room_call⟩)
    (c_Room_call : PySem.W.codeIn K cd_Room_call "Room.call" = true)
    (k_Room_call : PySem.W.keepIn K (.ref f_Room_call) = true)
    {f_Room_round : Addr}
    {od_Room_round an_Room_round : Option Addr}
    {sl_Room_round : Array (Option Value)}
    {oc_Room_round kV_Room_round dc_Room_round pm_Room_round cd_Room_round ct_Room_round : Value}
    (ja_Room_round : PySem.W.findIn K (.ref C_Room) "round" = some (some (.ref f_Room_round)))
    (ji_Room_round : PySem.W.isFn K (.ref f_Room_round) = true)
    (l_Room_round : K.lookup f_Room_round = some ⟨oc_Room_round, od_Room_round, .func (PySem.W.fnOf "round" "Room.round" (defArgs s_Room_round) (defBody s_Room_round) (defScope s_Room_round) .none kV_Room_round dc_Room_round pm_Room_round an_Room_round cd_Room_round ct_Room_round), sl_Room_round⟩)
    (c_Room_round : PySem.W.codeIn K cd_Room_round "Room.round" = true)
    (k_Room_round : PySem.W.keepIn K (.ref f_Room_round) = true)
    {f_Room_round_back : Addr}
    {od_Room_round_back an_Room_round_back : Option Addr}
    {sl_Room_round_back : Array (Option Value)}
    {oc_Room_round_back kV_Room_round_back dc_Room_round_back pm_Room_round_back cd_Room_round_back ct_Room_round_back : Value}
    (ja_Room_round_back : PySem.W.findIn K (.ref C_Room) "round_back" = some (some (.ref f_Room_round_back)))
    (ji_Room_round_back : PySem.W.isFn K (.ref f_Room_round_back) = true)
    (l_Room_round_back : K.lookup f_Room_round_back = some ⟨oc_Room_round_back, od_Room_round_back, .func (PySem.W.fnOf "round_back" "Room.round_back" (defArgs s_Room_round_back) (defBody s_Room_round_back) (defScope s_Room_round_back) .none kV_Room_round_back dc_Room_round_back pm_Room_round_back an_Room_round_back cd_Room_round_back ct_Room_round_back), sl_Room_round_back⟩)
    (c_Room_round_back : PySem.W.codeIn K cd_Room_round_back "Room.round_back" = true)
    (k_Room_round_back : PySem.W.keepIn K (.ref f_Room_round_back) = true)
    {f_Room_run : Addr}
    {od_Room_run an_Room_run : Option Addr}
    {sl_Room_run : Array (Option Value)}
    {oc_Room_run kV_Room_run dc_Room_run pm_Room_run cd_Room_run ct_Room_run : Value}
    (ja_Room_run : PySem.W.findIn K (.ref C_Room) "run" = some (some (.ref f_Room_run)))
    (ji_Room_run : PySem.W.isFn K (.ref f_Room_run) = true)
    (l_Room_run : K.lookup f_Room_run = some ⟨oc_Room_run, od_Room_run, .func (PySem.W.fnOf "run" "Room.run" (defArgs s_Room_run) (defBody s_Room_run) (defScope s_Room_run) .none kV_Room_run dc_Room_run pm_Room_run an_Room_run cd_Room_run ct_Room_run), sl_Room_run⟩)
    (c_Room_run : PySem.W.codeIn K cd_Room_run "Room.run" = true)
    (k_Room_run : PySem.W.keepIn K (.ref f_Room_run) = true)
    {f_Room_undo : Addr}
    {od_Room_undo an_Room_undo : Option Addr}
    {sl_Room_undo : Array (Option Value)}
    {oc_Room_undo kV_Room_undo dc_Room_undo pm_Room_undo cd_Room_undo ct_Room_undo : Value}
    (ja_Room_undo : PySem.W.findIn K (.ref C_Room) "undo" = some (some (.ref f_Room_undo)))
    (ji_Room_undo : PySem.W.isFn K (.ref f_Room_undo) = true)
    (l_Room_undo : K.lookup f_Room_undo = some ⟨oc_Room_undo, od_Room_undo, .func (PySem.W.fnOf "undo" "Room.undo" (defArgs s_Room_undo) (defBody s_Room_undo) (defScope s_Room_undo) .none kV_Room_undo dc_Room_undo pm_Room_undo an_Room_undo cd_Room_undo ct_Room_undo), sl_Room_undo⟩)
    (c_Room_undo : PySem.W.codeIn K cd_Room_undo "Room.undo" = true)
    (k_Room_undo : PySem.W.keepIn K (.ref f_Room_undo) = true)
    (gs_super : PySem.W.nsIn K mainGlobals "super" = some none) (gt_super : (l.prog.main.scope.names.lookup ("super" : Str)).isSome = false) (go_super : PySem.W.nsIn K cStatics "thirdparty.any" = some none)
    {X_InvalidNumber : Addr}
    (xm_InvalidNumber : PySem.W.nsIn K mainGlobals "InvalidNumber" = some (some (.ref X_InvalidNumber)))
    (xk_InvalidNumber : PySem.W.keepIn K (.ref X_InvalidNumber) = true)
    (xs_InvalidNumber : PySem.W.subIn K (.ref X_InvalidNumber) (.type "BaseException") = some true)
    (xt_InvalidNumber : PySem.W.typeIn K (.ref X_InvalidNumber) = some (.type "type"))
    (x1_InvalidNumber : PySem.W.findIn K (.ref X_InvalidNumber) "__getattribute__" = some (some (.builtin "BaseException.__getattribute__")))
    (x2_InvalidNumber : PySem.W.findIn K (.ref X_InvalidNumber) "__getattr__" = some none)
    (x3_InvalidNumber : PySem.W.hasDictIn K X_InvalidNumber = true)
    (x4_InvalidNumber : PySem.W.findIn K (.ref X_InvalidNumber) "__class__" = some (some (.builtin "object.__class__")))
    (x5_InvalidNumber : PySem.W.specialIn K (.builtin "object.__class__") "__get__" = some (some (.builtin "getset_descriptor.__get__")))
    (x6_InvalidNumber : PySem.W.takesIn K (.builtin "object.__class__") = some true)
    (x7_InvalidNumber : PySem.W.mroIn K X_InvalidNumber (.type "object") = some true)
    (x8_InvalidNumber : PySem.W.isClsIn K X_InvalidNumber = true)
    (x9_InvalidNumber : PySem.W.subIn K (.ref X_InvalidNumber) (.ref X_InvalidNumber) = some true)
    {u1_InvalidNumber u2_InvalidNumber : Str}
    {u3_InvalidNumber xf_InvalidNumber ucc_InvalidNumber uda_InvalidNumber : Addr}
    {u4_InvalidNumber u6_InvalidNumber : List Value}
    {u5_InvalidNumber : List Str}
    {u7_InvalidNumber : Bool}
    {u8_InvalidNumber : Option Bool}
    {u9_InvalidNumber ud_InvalidNumber uan_InvalidNumber ucd_InvalidNumber uld_InvalidNumber : Option Addr}
    {ua_InvalidNumber ub_InvalidNumber uc_InvalidNumber ue_InvalidNumber ug_InvalidNumber : Option Value}
    {uo_InvalidNumber : Obj}
    {uoc_InvalidNumber ukV_InvalidNumber udc_InvalidNumber upm_InvalidNumber uct_InvalidNumber ucl_InvalidNumber ull_InvalidNumber : Value}
    {usl_InvalidNumber ucs_InvalidNumber uls_InvalidNumber : Array (Option Value)}
    {ufi_InvalidNumber : Str}
    {utk_InvalidNumber : Tok}
    {uvs_InvalidNumber : Array Value}
    (yk_InvalidNumber : K.lookup X_InvalidNumber = some uo_InvalidNumber)
    (ye_InvalidNumber : uo_InvalidNumber = excClassObj u1_InvalidNumber u2_InvalidNumber X_InvalidNumber u3_InvalidNumber u4_InvalidNumber [.type "ValueError", .type "Exception", .type "BaseException", .type "object"] true u5_InvalidNumber u6_InvalidNumber u7_InvalidNumber u8_InvalidNumber u9_InvalidNumber ua_InvalidNumber ub_InvalidNumber uc_InvalidNumber ue_InvalidNumber ug_InvalidNumber "ValueError.__new__")
    (ya_InvalidNumber : PySem.W.findIn K (.ref X_InvalidNumber) "__setattr__" = some (some (.builtin "object.__setattr__")))
    (yn_InvalidNumber : PySem.W.findIn K (.ref X_InvalidNumber) "number" = some none)
    (yi_InvalidNumber : PySem.W.findIn K (.ref X_InvalidNumber) "__init__" = some (some (.ref xf_InvalidNumber)))
    (yt_InvalidNumber : PySem.W.typeIn K (.ref xf_InvalidNumber) = some (.type "function"))
    (yl_InvalidNumber : K.lookup xf_InvalidNumber = some ⟨uoc_InvalidNumber, ud_InvalidNumber, .func (PySem.W.ksFn "__init__" "InvalidNumber.__init__" (defArgs s_InvalidNumber___init__) (defBody s_InvalidNumber___init__) (defScope s_InvalidNumber___init__) .none ukV_InvalidNumber udc_InvalidNumber upm_InvalidNumber uan_InvalidNumber (.ref uda_InvalidNumber) uct_InvalidNumber ucc_InvalidNumber), usl_InvalidNumber⟩)
    (yc_InvalidNumber : PySem.W.codeIn K (.ref uda_InvalidNumber) "InvalidNumber.__init__" = true)
    (yd_InvalidNumber : K.lookup uda_InvalidNumber = some ⟨ucl_InvalidNumber, ucd_InvalidNumber, .fields uvs_InvalidNumber, ucs_InvalidNumber⟩)
    (yv_InvalidNumber : (uvs_InvalidNumber[2]? : Option Value) = some (.str ufi_InvalidNumber utk_InvalidNumber))
    (yf_InvalidNumber : ((l.prog.main.file : Str) == ufi_InvalidNumber) = true)
    (yq_InvalidNumber : K.lookup ucc_InvalidNumber = some ⟨ull_InvalidNumber, uld_InvalidNumber, .cell (some (.ref X_InvalidNumber)), uls_InvalidNumber⟩)
    {X_InvalidOrder : Addr}
    (xm_InvalidOrder : PySem.W.nsIn K mainGlobals "InvalidOrder" = some (some (.ref X_InvalidOrder)))
    (xk_InvalidOrder : PySem.W.keepIn K (.ref X_InvalidOrder) = true)
    (xs_InvalidOrder : PySem.W.subIn K (.ref X_InvalidOrder) (.type "BaseException") = some true)
    (xt_InvalidOrder : PySem.W.typeIn K (.ref X_InvalidOrder) = some (.type "type"))
    (x1_InvalidOrder : PySem.W.findIn K (.ref X_InvalidOrder) "__getattribute__" = some (some (.builtin "BaseException.__getattribute__")))
    (x2_InvalidOrder : PySem.W.findIn K (.ref X_InvalidOrder) "__getattr__" = some none)
    (x3_InvalidOrder : PySem.W.hasDictIn K X_InvalidOrder = true)
    (x4_InvalidOrder : PySem.W.findIn K (.ref X_InvalidOrder) "__class__" = some (some (.builtin "object.__class__")))
    (x5_InvalidOrder : PySem.W.specialIn K (.builtin "object.__class__") "__get__" = some (some (.builtin "getset_descriptor.__get__")))
    (x6_InvalidOrder : PySem.W.takesIn K (.builtin "object.__class__") = some true)
    (x7_InvalidOrder : PySem.W.mroIn K X_InvalidOrder (.type "object") = some true)
    (x8_InvalidOrder : PySem.W.isClsIn K X_InvalidOrder = true)
    (x9_InvalidOrder : PySem.W.subIn K (.ref X_InvalidOrder) (.ref X_InvalidOrder) = some true)
    {u1_InvalidOrder u2_InvalidOrder : Str}
    {u3_InvalidOrder xf_InvalidOrder ucc_InvalidOrder uda_InvalidOrder : Addr}
    {u4_InvalidOrder u6_InvalidOrder : List Value}
    {u5_InvalidOrder : List Str}
    {u7_InvalidOrder : Bool}
    {u8_InvalidOrder : Option Bool}
    {u9_InvalidOrder ud_InvalidOrder uan_InvalidOrder ucd_InvalidOrder uld_InvalidOrder : Option Addr}
    {ua_InvalidOrder ub_InvalidOrder uc_InvalidOrder ue_InvalidOrder ug_InvalidOrder : Option Value}
    {uo_InvalidOrder : Obj}
    {uoc_InvalidOrder ukV_InvalidOrder udc_InvalidOrder upm_InvalidOrder uct_InvalidOrder ucl_InvalidOrder ull_InvalidOrder : Value}
    {usl_InvalidOrder ucs_InvalidOrder uls_InvalidOrder : Array (Option Value)}
    {ufi_InvalidOrder : Str}
    {utk_InvalidOrder : Tok}
    {uvs_InvalidOrder : Array Value}
    (yk_InvalidOrder : K.lookup X_InvalidOrder = some uo_InvalidOrder)
    (ye_InvalidOrder : uo_InvalidOrder = excClassObj u1_InvalidOrder u2_InvalidOrder X_InvalidOrder u3_InvalidOrder u4_InvalidOrder [.type "ValueError", .type "Exception", .type "BaseException", .type "object"] true u5_InvalidOrder u6_InvalidOrder u7_InvalidOrder u8_InvalidOrder u9_InvalidOrder ua_InvalidOrder ub_InvalidOrder uc_InvalidOrder ue_InvalidOrder ug_InvalidOrder "ValueError.__new__")
    (ya_InvalidOrder : PySem.W.findIn K (.ref X_InvalidOrder) "__setattr__" = some (some (.builtin "object.__setattr__")))
    (yn_InvalidOrder : PySem.W.findIn K (.ref X_InvalidOrder) "index" = some none)
    (yi_InvalidOrder : PySem.W.findIn K (.ref X_InvalidOrder) "__init__" = some (some (.ref xf_InvalidOrder)))
    (yt_InvalidOrder : PySem.W.typeIn K (.ref xf_InvalidOrder) = some (.type "function"))
    (yl_InvalidOrder : K.lookup xf_InvalidOrder = some ⟨uoc_InvalidOrder, ud_InvalidOrder, .func (PySem.W.ksFn "__init__" "InvalidOrder.__init__" (defArgs s_InvalidOrder___init__) (defBody s_InvalidOrder___init__) (defScope s_InvalidOrder___init__) .none ukV_InvalidOrder udc_InvalidOrder upm_InvalidOrder uan_InvalidOrder (.ref uda_InvalidOrder) uct_InvalidOrder ucc_InvalidOrder), usl_InvalidOrder⟩)
    (yc_InvalidOrder : PySem.W.codeIn K (.ref uda_InvalidOrder) "InvalidOrder.__init__" = true)
    (yd_InvalidOrder : K.lookup uda_InvalidOrder = some ⟨ucl_InvalidOrder, ucd_InvalidOrder, .fields uvs_InvalidOrder, ucs_InvalidOrder⟩)
    (yv_InvalidOrder : (uvs_InvalidOrder[2]? : Option Value) = some (.str ufi_InvalidOrder utk_InvalidOrder))
    (yf_InvalidOrder : ((l.prog.main.file : Str) == ufi_InvalidOrder) = true)
    (yq_InvalidOrder : K.lookup ucc_InvalidOrder = some ⟨ull_InvalidOrder, uld_InvalidOrder, .cell (some (.ref X_InvalidOrder)), uls_InvalidOrder⟩)
    {X_InvalidStanding : Addr}
    (xm_InvalidStanding : PySem.W.nsIn K mainGlobals "InvalidStanding" = some (some (.ref X_InvalidStanding)))
    (xk_InvalidStanding : PySem.W.keepIn K (.ref X_InvalidStanding) = true)
    (xs_InvalidStanding : PySem.W.subIn K (.ref X_InvalidStanding) (.type "BaseException") = some true)
    (xt_InvalidStanding : PySem.W.typeIn K (.ref X_InvalidStanding) = some (.type "type"))
    (x1_InvalidStanding : PySem.W.findIn K (.ref X_InvalidStanding) "__getattribute__" = some (some (.builtin "BaseException.__getattribute__")))
    (x2_InvalidStanding : PySem.W.findIn K (.ref X_InvalidStanding) "__getattr__" = some none)
    (x3_InvalidStanding : PySem.W.hasDictIn K X_InvalidStanding = true)
    (x4_InvalidStanding : PySem.W.findIn K (.ref X_InvalidStanding) "__class__" = some (some (.builtin "object.__class__")))
    (x5_InvalidStanding : PySem.W.specialIn K (.builtin "object.__class__") "__get__" = some (some (.builtin "getset_descriptor.__get__")))
    (x6_InvalidStanding : PySem.W.takesIn K (.builtin "object.__class__") = some true)
    (x7_InvalidStanding : PySem.W.mroIn K X_InvalidStanding (.type "object") = some true)
    (x8_InvalidStanding : PySem.W.isClsIn K X_InvalidStanding = true)
    (x9_InvalidStanding : PySem.W.subIn K (.ref X_InvalidStanding) (.ref X_InvalidStanding) = some true)
    {u1_InvalidStanding u2_InvalidStanding : Str}
    {u3_InvalidStanding xf_InvalidStanding ucc_InvalidStanding uda_InvalidStanding : Addr}
    {u4_InvalidStanding u6_InvalidStanding : List Value}
    {u5_InvalidStanding : List Str}
    {u7_InvalidStanding : Bool}
    {u8_InvalidStanding : Option Bool}
    {u9_InvalidStanding ud_InvalidStanding uan_InvalidStanding ucd_InvalidStanding uld_InvalidStanding : Option Addr}
    {ua_InvalidStanding ub_InvalidStanding uc_InvalidStanding ue_InvalidStanding ug_InvalidStanding : Option Value}
    {uo_InvalidStanding : Obj}
    {uoc_InvalidStanding ukV_InvalidStanding udc_InvalidStanding upm_InvalidStanding uct_InvalidStanding ucl_InvalidStanding ull_InvalidStanding : Value}
    {usl_InvalidStanding ucs_InvalidStanding uls_InvalidStanding : Array (Option Value)}
    {ufi_InvalidStanding : Str}
    {utk_InvalidStanding : Tok}
    {uvs_InvalidStanding : Array Value}
    (yk_InvalidStanding : K.lookup X_InvalidStanding = some uo_InvalidStanding)
    (ye_InvalidStanding : uo_InvalidStanding = excClassObj u1_InvalidStanding u2_InvalidStanding X_InvalidStanding u3_InvalidStanding u4_InvalidStanding [.type "ValueError", .type "Exception", .type "BaseException", .type "object"] true u5_InvalidStanding u6_InvalidStanding u7_InvalidStanding u8_InvalidStanding u9_InvalidStanding ua_InvalidStanding ub_InvalidStanding uc_InvalidStanding ue_InvalidStanding ug_InvalidStanding "ValueError.__new__")
    (ya_InvalidStanding : PySem.W.findIn K (.ref X_InvalidStanding) "__setattr__" = some (some (.builtin "object.__setattr__")))
    (yn_InvalidStanding : PySem.W.findIn K (.ref X_InvalidStanding) "index" = some none)
    (yi_InvalidStanding : PySem.W.findIn K (.ref X_InvalidStanding) "__init__" = some (some (.ref xf_InvalidStanding)))
    (yt_InvalidStanding : PySem.W.typeIn K (.ref xf_InvalidStanding) = some (.type "function"))
    (yl_InvalidStanding : K.lookup xf_InvalidStanding = some ⟨uoc_InvalidStanding, ud_InvalidStanding, .func (PySem.W.ksFn "__init__" "InvalidStanding.__init__" (defArgs s_InvalidStanding___init__) (defBody s_InvalidStanding___init__) (defScope s_InvalidStanding___init__) .none ukV_InvalidStanding udc_InvalidStanding upm_InvalidStanding uan_InvalidStanding (.ref uda_InvalidStanding) uct_InvalidStanding ucc_InvalidStanding), usl_InvalidStanding⟩)
    (yc_InvalidStanding : PySem.W.codeIn K (.ref uda_InvalidStanding) "InvalidStanding.__init__" = true)
    (yd_InvalidStanding : K.lookup uda_InvalidStanding = some ⟨ucl_InvalidStanding, ucd_InvalidStanding, .fields uvs_InvalidStanding, ucs_InvalidStanding⟩)
    (yv_InvalidStanding : (uvs_InvalidStanding[2]? : Option Value) = some (.str ufi_InvalidStanding utk_InvalidStanding))
    (yf_InvalidStanding : ((l.prog.main.file : Str) == ufi_InvalidStanding) = true)
    (yq_InvalidStanding : K.lookup ucc_InvalidStanding = some ⟨ull_InvalidStanding, uld_InvalidStanding, .cell (some (.ref X_InvalidStanding)), uls_InvalidStanding⟩)
    {X_InvalidTies : Addr}
    (xm_InvalidTies : PySem.W.nsIn K mainGlobals "InvalidTies" = some (some (.ref X_InvalidTies)))
    (xk_InvalidTies : PySem.W.keepIn K (.ref X_InvalidTies) = true)
    (xs_InvalidTies : PySem.W.subIn K (.ref X_InvalidTies) (.type "BaseException") = some true)
    (xt_InvalidTies : PySem.W.typeIn K (.ref X_InvalidTies) = some (.type "type"))
    (x1_InvalidTies : PySem.W.findIn K (.ref X_InvalidTies) "__getattribute__" = some (some (.builtin "BaseException.__getattribute__")))
    (x2_InvalidTies : PySem.W.findIn K (.ref X_InvalidTies) "__getattr__" = some none)
    (x3_InvalidTies : PySem.W.hasDictIn K X_InvalidTies = true)
    (x4_InvalidTies : PySem.W.findIn K (.ref X_InvalidTies) "__class__" = some (some (.builtin "object.__class__")))
    (x5_InvalidTies : PySem.W.specialIn K (.builtin "object.__class__") "__get__" = some (some (.builtin "getset_descriptor.__get__")))
    (x6_InvalidTies : PySem.W.takesIn K (.builtin "object.__class__") = some true)
    (x7_InvalidTies : PySem.W.mroIn K X_InvalidTies (.type "object") = some true)
    (x8_InvalidTies : PySem.W.isClsIn K X_InvalidTies = true)
    (x9_InvalidTies : PySem.W.subIn K (.ref X_InvalidTies) (.ref X_InvalidTies) = some true)
    {u1_InvalidTies u2_InvalidTies : Str}
    {u3_InvalidTies xf_InvalidTies ucc_InvalidTies uda_InvalidTies : Addr}
    {u4_InvalidTies u6_InvalidTies : List Value}
    {u5_InvalidTies : List Str}
    {u7_InvalidTies : Bool}
    {u8_InvalidTies : Option Bool}
    {u9_InvalidTies ud_InvalidTies uan_InvalidTies ucd_InvalidTies uld_InvalidTies : Option Addr}
    {ua_InvalidTies ub_InvalidTies uc_InvalidTies ue_InvalidTies ug_InvalidTies : Option Value}
    {uo_InvalidTies : Obj}
    {uoc_InvalidTies ukV_InvalidTies udc_InvalidTies upm_InvalidTies uct_InvalidTies ucl_InvalidTies ull_InvalidTies : Value}
    {usl_InvalidTies ucs_InvalidTies uls_InvalidTies : Array (Option Value)}
    {ufi_InvalidTies : Str}
    {utk_InvalidTies : Tok}
    {uvs_InvalidTies : Array Value}
    (yk_InvalidTies : K.lookup X_InvalidTies = some uo_InvalidTies)
    (ye_InvalidTies : uo_InvalidTies = excClassObj u1_InvalidTies u2_InvalidTies X_InvalidTies u3_InvalidTies u4_InvalidTies [.type "ValueError", .type "Exception", .type "BaseException", .type "object"] true u5_InvalidTies u6_InvalidTies u7_InvalidTies u8_InvalidTies u9_InvalidTies ua_InvalidTies ub_InvalidTies uc_InvalidTies ue_InvalidTies ug_InvalidTies "ValueError.__new__")
    (ya_InvalidTies : PySem.W.findIn K (.ref X_InvalidTies) "__setattr__" = some (some (.builtin "object.__setattr__")))
    (yn_InvalidTies : PySem.W.findIn K (.ref X_InvalidTies) "index" = some none)
    (yi_InvalidTies : PySem.W.findIn K (.ref X_InvalidTies) "__init__" = some (some (.ref xf_InvalidTies)))
    (yt_InvalidTies : PySem.W.typeIn K (.ref xf_InvalidTies) = some (.type "function"))
    (yl_InvalidTies : K.lookup xf_InvalidTies = some ⟨uoc_InvalidTies, ud_InvalidTies, .func (PySem.W.ksFn "__init__" "InvalidTies.__init__" (defArgs s_InvalidTies___init__) (defBody s_InvalidTies___init__) (defScope s_InvalidTies___init__) .none ukV_InvalidTies udc_InvalidTies upm_InvalidTies uan_InvalidTies (.ref uda_InvalidTies) uct_InvalidTies ucc_InvalidTies), usl_InvalidTies⟩)
    (yc_InvalidTies : PySem.W.codeIn K (.ref uda_InvalidTies) "InvalidTies.__init__" = true)
    (yd_InvalidTies : K.lookup uda_InvalidTies = some ⟨ucl_InvalidTies, ucd_InvalidTies, .fields uvs_InvalidTies, ucs_InvalidTies⟩)
    (yv_InvalidTies : (uvs_InvalidTies[2]? : Option Value) = some (.str ufi_InvalidTies utk_InvalidTies))
    (yf_InvalidTies : ((l.prog.main.file : Str) == ufi_InvalidTies) = true)
    (yq_InvalidTies : K.lookup ucc_InvalidTies = some ⟨ull_InvalidTies, uld_InvalidTies, .cell (some (.ref X_InvalidTies)), uls_InvalidTies⟩)
    {X_NothingToUndo : Addr}
    (xm_NothingToUndo : PySem.W.nsIn K mainGlobals "NothingToUndo" = some (some (.ref X_NothingToUndo)))
    (xi_NothingToUndo : PySem.W.excIn K X_NothingToUndo [.type "LookupError", .type "Exception", .type "BaseException", .type "object"] "LookupError.__new__" = true)
    (xk_NothingToUndo : PySem.W.keepIn K (.ref X_NothingToUndo) = true)
    (xs_NothingToUndo : PySem.W.subIn K (.ref X_NothingToUndo) (.type "BaseException") = some true)
    (xt_NothingToUndo : PySem.W.typeIn K (.ref X_NothingToUndo) = some (.type "type"))
    (x1_NothingToUndo : PySem.W.findIn K (.ref X_NothingToUndo) "__getattribute__" = some (some (.builtin "BaseException.__getattribute__")))
    (x2_NothingToUndo : PySem.W.findIn K (.ref X_NothingToUndo) "__getattr__" = some none)
    (x3_NothingToUndo : PySem.W.hasDictIn K X_NothingToUndo = true)
    (x4_NothingToUndo : PySem.W.findIn K (.ref X_NothingToUndo) "__class__" = some (some (.builtin "object.__class__")))
    (x5_NothingToUndo : PySem.W.specialIn K (.builtin "object.__class__") "__get__" = some (some (.builtin "getset_descriptor.__get__")))
    (x6_NothingToUndo : PySem.W.takesIn K (.builtin "object.__class__") = some true)
    (x7_NothingToUndo : PySem.W.mroIn K X_NothingToUndo (.type "object") = some true)
    (x8_NothingToUndo : PySem.W.isClsIn K X_NothingToUndo = true)
    (x9_NothingToUndo : PySem.W.subIn K (.ref X_NothingToUndo) (.ref X_NothingToUndo) = some true)
    (xb_NothingToUndo : PySem.W.subIn K (.ref X_NothingToUndo) (.type "LookupError") = some true)
    {X_UnknownCall : Addr}
    (xm_UnknownCall : PySem.W.nsIn K mainGlobals "UnknownCall" = some (some (.ref X_UnknownCall)))
    (xk_UnknownCall : PySem.W.keepIn K (.ref X_UnknownCall) = true)
    (xs_UnknownCall : PySem.W.subIn K (.ref X_UnknownCall) (.type "BaseException") = some true)
    (xt_UnknownCall : PySem.W.typeIn K (.ref X_UnknownCall) = some (.type "type"))
    (x1_UnknownCall : PySem.W.findIn K (.ref X_UnknownCall) "__getattribute__" = some (some (.builtin "BaseException.__getattribute__")))
    (x2_UnknownCall : PySem.W.findIn K (.ref X_UnknownCall) "__getattr__" = some none)
    (x3_UnknownCall : PySem.W.hasDictIn K X_UnknownCall = true)
    (x4_UnknownCall : PySem.W.findIn K (.ref X_UnknownCall) "__class__" = some (some (.builtin "object.__class__")))
    (x5_UnknownCall : PySem.W.specialIn K (.builtin "object.__class__") "__get__" = some (some (.builtin "getset_descriptor.__get__")))
    (x6_UnknownCall : PySem.W.takesIn K (.builtin "object.__class__") = some true)
    (x7_UnknownCall : PySem.W.mroIn K X_UnknownCall (.type "object") = some true)
    (x8_UnknownCall : PySem.W.isClsIn K X_UnknownCall = true)
    (x9_UnknownCall : PySem.W.subIn K (.ref X_UnknownCall) (.ref X_UnknownCall) = some true)
    {u1_UnknownCall u2_UnknownCall : Str}
    {u3_UnknownCall xf_UnknownCall ucc_UnknownCall uda_UnknownCall : Addr}
    {u4_UnknownCall u6_UnknownCall : List Value}
    {u5_UnknownCall : List Str}
    {u7_UnknownCall : Bool}
    {u8_UnknownCall : Option Bool}
    {u9_UnknownCall ud_UnknownCall uan_UnknownCall ucd_UnknownCall uld_UnknownCall : Option Addr}
    {ua_UnknownCall ub_UnknownCall uc_UnknownCall ue_UnknownCall ug_UnknownCall : Option Value}
    {uo_UnknownCall : Obj}
    {uoc_UnknownCall ukV_UnknownCall udc_UnknownCall upm_UnknownCall uct_UnknownCall ucl_UnknownCall ull_UnknownCall : Value}
    {usl_UnknownCall ucs_UnknownCall uls_UnknownCall : Array (Option Value)}
    {ufi_UnknownCall : Str}
    {utk_UnknownCall : Tok}
    {uvs_UnknownCall : Array Value}
    (yk_UnknownCall : K.lookup X_UnknownCall = some uo_UnknownCall)
    (ye_UnknownCall : uo_UnknownCall = excClassObj u1_UnknownCall u2_UnknownCall X_UnknownCall u3_UnknownCall u4_UnknownCall [.type "LookupError", .type "Exception", .type "BaseException", .type "object"] true u5_UnknownCall u6_UnknownCall u7_UnknownCall u8_UnknownCall u9_UnknownCall ua_UnknownCall ub_UnknownCall uc_UnknownCall ue_UnknownCall ug_UnknownCall "LookupError.__new__")
    (ya_UnknownCall : PySem.W.findIn K (.ref X_UnknownCall) "__setattr__" = some (some (.builtin "object.__setattr__")))
    (yn_UnknownCall : PySem.W.findIn K (.ref X_UnknownCall) "number" = some none)
    (yi_UnknownCall : PySem.W.findIn K (.ref X_UnknownCall) "__init__" = some (some (.ref xf_UnknownCall)))
    (yt_UnknownCall : PySem.W.typeIn K (.ref xf_UnknownCall) = some (.type "function"))
    (yl_UnknownCall : K.lookup xf_UnknownCall = some ⟨uoc_UnknownCall, ud_UnknownCall, .func (PySem.W.ksFn "__init__" "UnknownCall.__init__" (defArgs s_UnknownCall___init__) (defBody s_UnknownCall___init__) (defScope s_UnknownCall___init__) .none ukV_UnknownCall udc_UnknownCall upm_UnknownCall uan_UnknownCall (.ref uda_UnknownCall) uct_UnknownCall ucc_UnknownCall), usl_UnknownCall⟩)
    (yc_UnknownCall : PySem.W.codeIn K (.ref uda_UnknownCall) "UnknownCall.__init__" = true)
    (yd_UnknownCall : K.lookup uda_UnknownCall = some ⟨ucl_UnknownCall, ucd_UnknownCall, .fields uvs_UnknownCall, ucs_UnknownCall⟩)
    (yv_UnknownCall : (uvs_UnknownCall[2]? : Option Value) = some (.str ufi_UnknownCall utk_UnknownCall))
    (yf_UnknownCall : ((l.prog.main.file : Str) == ufi_UnknownCall) = true)
    (yq_UnknownCall : K.lookup ucc_UnknownCall = some ⟨ull_UnknownCall, uld_UnknownCall, .cell (some (.ref X_UnknownCall)), uls_UnknownCall⟩)
    (ns_InvalidNumber : PySem.W.subIn K (.ref X_InvalidNumber) (.type "StopIteration") = some false)
    (nb_InvalidNumber_ValueError : PySem.W.subIn K (.ref X_InvalidNumber) (.type "ValueError") = some true)
    (nb_InvalidNumber_LookupError : PySem.W.subIn K (.ref X_InvalidNumber) (.type "LookupError") = some false)
    (np_InvalidNumber_InvalidOrder : PySem.W.subIn K (.ref X_InvalidNumber) (.ref X_InvalidOrder) = some false)
    (np_InvalidNumber_InvalidStanding : PySem.W.subIn K (.ref X_InvalidNumber) (.ref X_InvalidStanding) = some false)
    (np_InvalidNumber_InvalidTies : PySem.W.subIn K (.ref X_InvalidNumber) (.ref X_InvalidTies) = some false)
    (np_InvalidNumber_NothingToUndo : PySem.W.subIn K (.ref X_InvalidNumber) (.ref X_NothingToUndo) = some false)
    (np_InvalidNumber_UnknownCall : PySem.W.subIn K (.ref X_InvalidNumber) (.ref X_UnknownCall) = some false)
    (ns_InvalidOrder : PySem.W.subIn K (.ref X_InvalidOrder) (.type "StopIteration") = some false)
    (nb_InvalidOrder_ValueError : PySem.W.subIn K (.ref X_InvalidOrder) (.type "ValueError") = some true)
    (nb_InvalidOrder_LookupError : PySem.W.subIn K (.ref X_InvalidOrder) (.type "LookupError") = some false)
    (np_InvalidOrder_InvalidNumber : PySem.W.subIn K (.ref X_InvalidOrder) (.ref X_InvalidNumber) = some false)
    (np_InvalidOrder_InvalidStanding : PySem.W.subIn K (.ref X_InvalidOrder) (.ref X_InvalidStanding) = some false)
    (np_InvalidOrder_InvalidTies : PySem.W.subIn K (.ref X_InvalidOrder) (.ref X_InvalidTies) = some false)
    (np_InvalidOrder_NothingToUndo : PySem.W.subIn K (.ref X_InvalidOrder) (.ref X_NothingToUndo) = some false)
    (np_InvalidOrder_UnknownCall : PySem.W.subIn K (.ref X_InvalidOrder) (.ref X_UnknownCall) = some false)
    (ns_InvalidStanding : PySem.W.subIn K (.ref X_InvalidStanding) (.type "StopIteration") = some false)
    (nb_InvalidStanding_ValueError : PySem.W.subIn K (.ref X_InvalidStanding) (.type "ValueError") = some true)
    (nb_InvalidStanding_LookupError : PySem.W.subIn K (.ref X_InvalidStanding) (.type "LookupError") = some false)
    (np_InvalidStanding_InvalidNumber : PySem.W.subIn K (.ref X_InvalidStanding) (.ref X_InvalidNumber) = some false)
    (np_InvalidStanding_InvalidOrder : PySem.W.subIn K (.ref X_InvalidStanding) (.ref X_InvalidOrder) = some false)
    (np_InvalidStanding_InvalidTies : PySem.W.subIn K (.ref X_InvalidStanding) (.ref X_InvalidTies) = some false)
    (np_InvalidStanding_NothingToUndo : PySem.W.subIn K (.ref X_InvalidStanding) (.ref X_NothingToUndo) = some false)
    (np_InvalidStanding_UnknownCall : PySem.W.subIn K (.ref X_InvalidStanding) (.ref X_UnknownCall) = some false)
    (ns_InvalidTies : PySem.W.subIn K (.ref X_InvalidTies) (.type "StopIteration") = some false)
    (nb_InvalidTies_ValueError : PySem.W.subIn K (.ref X_InvalidTies) (.type "ValueError") = some true)
    (nb_InvalidTies_LookupError : PySem.W.subIn K (.ref X_InvalidTies) (.type "LookupError") = some false)
    (np_InvalidTies_InvalidNumber : PySem.W.subIn K (.ref X_InvalidTies) (.ref X_InvalidNumber) = some false)
    (np_InvalidTies_InvalidOrder : PySem.W.subIn K (.ref X_InvalidTies) (.ref X_InvalidOrder) = some false)
    (np_InvalidTies_InvalidStanding : PySem.W.subIn K (.ref X_InvalidTies) (.ref X_InvalidStanding) = some false)
    (np_InvalidTies_NothingToUndo : PySem.W.subIn K (.ref X_InvalidTies) (.ref X_NothingToUndo) = some false)
    (np_InvalidTies_UnknownCall : PySem.W.subIn K (.ref X_InvalidTies) (.ref X_UnknownCall) = some false)
    (ns_NothingToUndo : PySem.W.subIn K (.ref X_NothingToUndo) (.type "StopIteration") = some false)
    (nb_NothingToUndo_ValueError : PySem.W.subIn K (.ref X_NothingToUndo) (.type "ValueError") = some false)
    (nb_NothingToUndo_LookupError : PySem.W.subIn K (.ref X_NothingToUndo) (.type "LookupError") = some true)
    (np_NothingToUndo_InvalidNumber : PySem.W.subIn K (.ref X_NothingToUndo) (.ref X_InvalidNumber) = some false)
    (np_NothingToUndo_InvalidOrder : PySem.W.subIn K (.ref X_NothingToUndo) (.ref X_InvalidOrder) = some false)
    (np_NothingToUndo_InvalidStanding : PySem.W.subIn K (.ref X_NothingToUndo) (.ref X_InvalidStanding) = some false)
    (np_NothingToUndo_InvalidTies : PySem.W.subIn K (.ref X_NothingToUndo) (.ref X_InvalidTies) = some false)
    (np_NothingToUndo_UnknownCall : PySem.W.subIn K (.ref X_NothingToUndo) (.ref X_UnknownCall) = some false)
    (ns_UnknownCall : PySem.W.subIn K (.ref X_UnknownCall) (.type "StopIteration") = some false)
    (nb_UnknownCall_ValueError : PySem.W.subIn K (.ref X_UnknownCall) (.type "ValueError") = some false)
    (nb_UnknownCall_LookupError : PySem.W.subIn K (.ref X_UnknownCall) (.type "LookupError") = some true)
    (np_UnknownCall_InvalidNumber : PySem.W.subIn K (.ref X_UnknownCall) (.ref X_InvalidNumber) = some false)
    (np_UnknownCall_InvalidOrder : PySem.W.subIn K (.ref X_UnknownCall) (.ref X_InvalidOrder) = some false)
    (np_UnknownCall_InvalidStanding : PySem.W.subIn K (.ref X_UnknownCall) (.ref X_InvalidStanding) = some false)
    (np_UnknownCall_InvalidTies : PySem.W.subIn K (.ref X_UnknownCall) (.ref X_InvalidTies) = some false)
    (np_UnknownCall_NothingToUndo : PySem.W.subIn K (.ref X_UnknownCall) (.ref X_NothingToUndo) = some false)
    {f_is_whole : Addr} {od_is_whole an_is_whole : Option Addr} {sl_is_whole : Array (Option Value)} {oc_is_whole kV_is_whole dc_is_whole pm_is_whole cd_is_whole ct_is_whole : Value}
    (a_is_whole : PySem.W.nsIn K mainGlobals "is_whole" = some (some (.ref f_is_whole))) (l_is_whole : K.lookup f_is_whole = some ⟨oc_is_whole, od_is_whole, .func (PySem.W.fnOf "is_whole" "is_whole" (defArgs s_is_whole) (defBody s_is_whole) (defScope s_is_whole) .none kV_is_whole dc_is_whole pm_is_whole an_is_whole cd_is_whole ct_is_whole), sl_is_whole⟩) (c_is_whole : PySem.W.codeIn K cd_is_whole "is_whole" = true) (k_is_whole : PySem.W.keepIn K (.ref f_is_whole) = true)
    {f_is_within : Addr} {od_is_within an_is_within : Option Addr} {sl_is_within : Array (Option Value)} {oc_is_within kV_is_within dc_is_within pm_is_within cd_is_within ct_is_within : Value}
    (a_is_within : PySem.W.nsIn K mainGlobals "is_within" = some (some (.ref f_is_within))) (l_is_within : K.lookup f_is_within = some ⟨oc_is_within, od_is_within, .func (PySem.W.fnOf "is_within" "is_within" (defArgs s_is_within) (defBody s_is_within) (defScope s_is_within) .none kV_is_within dc_is_within pm_is_within an_is_within cd_is_within ct_is_within), sl_is_within⟩) (c_is_within : PySem.W.codeIn K cd_is_within "is_within" = true) (k_is_within : PySem.W.keepIn K (.ref f_is_within) = true)
    {f_check_seats : Addr} {od_check_seats an_check_seats : Option Addr} {sl_check_seats : Array (Option Value)} {oc_check_seats kV_check_seats dc_check_seats pm_check_seats cd_check_seats ct_check_seats : Value}
    (a_check_seats : PySem.W.nsIn K mainGlobals "check_seats" = some (some (.ref f_check_seats))) (l_check_seats : K.lookup f_check_seats = some ⟨oc_check_seats, od_check_seats, .func (PySem.W.fnOf "check_seats" "check_seats" (defArgs s_check_seats) (defBody s_check_seats) (defScope s_check_seats) .none kV_check_seats dc_check_seats pm_check_seats an_check_seats cd_check_seats ct_check_seats), sl_check_seats⟩) (c_check_seats : PySem.W.codeIn K cd_check_seats "check_seats" = true) (k_check_seats : PySem.W.keepIn K (.ref f_check_seats) = true)
    {f_check_ties : Addr} {od_check_ties an_check_ties : Option Addr} {sl_check_ties : Array (Option Value)} {oc_check_ties kV_check_ties dc_check_ties pm_check_ties cd_check_ties ct_check_ties : Value}
    (a_check_ties : PySem.W.nsIn K mainGlobals "check_ties" = some (some (.ref f_check_ties))) (l_check_ties : K.lookup f_check_ties = some ⟨oc_check_ties, od_check_ties, .func (PySem.W.fnOf "check_ties" "check_ties" (defArgs s_check_ties) (defBody s_check_ties) (defScope s_check_ties) .none kV_check_ties dc_check_ties pm_check_ties an_check_ties cd_check_ties ct_check_ties), sl_check_ties⟩) (c_check_ties : PySem.W.codeIn K cd_check_ties "check_ties" = true) (k_check_ties : PySem.W.keepIn K (.ref f_check_ties) = true)
    {cc_check_ties pp_check_ties : Addr} {tc_check_ties : Value} {td_check_ties : Option Addr} {tv_check_ties : Array Value} {ts_check_ties : Array (Option Value)} {dr_check_ties : DefRec} (e_check_ties : cd_check_ties = .ref cc_check_ties) (d_check_ties : K.lookup cc_check_ties = some ⟨tc_check_ties, td_check_ties, .fields tv_check_ties, ts_check_ties⟩) (q_check_ties : (tv_check_ties[11]? : Option Value) = some (.ref pp_check_ties)) (r_check_ties : (recsOf q).find? (fun e => e.name == ("check_ties" : Str)) = some dr_check_ties) (n_check_ties : K.lookup pp_check_ties = none)
    (lg_check_ties : lamT pp_check_ties = none)
    {f_check_net : Addr} {od_check_net an_check_net : Option Addr} {sl_check_net : Array (Option Value)} {oc_check_net kV_check_net dc_check_net pm_check_net cd_check_net ct_check_net : Value}
    (a_check_net : PySem.W.nsIn K mainGlobals "check_net" = some (some (.ref f_check_net))) (l_check_net : K.lookup f_check_net = some ⟨oc_check_net, od_check_net, .func (PySem.W.fnOf "check_net" "check_net" (defArgs s_check_net) (defBody s_check_net) (defScope s_check_net) .none kV_check_net dc_check_net pm_check_net an_check_net cd_check_net ct_check_net), sl_check_net⟩) (c_check_net : PySem.W.codeIn K cd_check_net "check_net" = true) (k_check_net : PySem.W.keepIn K (.ref f_check_net) = true)
    {f_near_in : Addr} {od_near_in an_near_in : Option Addr} {sl_near_in : Array (Option Value)} {oc_near_in kV_near_in dc_near_in pm_near_in cd_near_in ct_near_in : Value}
    (a_near_in : PySem.W.nsIn K mainGlobals "near_in" = some (some (.ref f_near_in))) (l_near_in : K.lookup f_near_in = some ⟨oc_near_in, od_near_in, .func (PySem.W.fnOf "near_in" "near_in" (defArgs s_near_in) (defBody s_near_in) (defScope s_near_in) .none kV_near_in dc_near_in pm_near_in an_near_in cd_near_in ct_near_in), sl_near_in⟩) (c_near_in : PySem.W.codeIn K cd_near_in "near_in" = true) (k_near_in : PySem.W.keepIn K (.ref f_near_in) = true)
    {f_next_round : Addr} {od_next_round an_next_round : Option Addr} {sl_next_round : Array (Option Value)} {oc_next_round kV_next_round dc_next_round pm_next_round cd_next_round ct_next_round : Value}
    (a_next_round : PySem.W.nsIn K mainGlobals "next_round" = some (some (.ref f_next_round))) (l_next_round : K.lookup f_next_round = some ⟨oc_next_round, od_next_round, .func (PySem.W.fnOf "next_round" "next_round" (defArgs s_next_round) (defBody s_next_round) (defScope s_next_round) .none kV_next_round dc_next_round pm_next_round an_next_round cd_next_round ct_next_round), sl_next_round⟩) (c_next_round : PySem.W.codeIn K cd_next_round "next_round" = true) (k_next_round : PySem.W.keepIn K (.ref f_next_round) = true)
    {f_wrong_place : Addr} {od_wrong_place an_wrong_place : Option Addr} {sl_wrong_place : Array (Option Value)} {oc_wrong_place kV_wrong_place dc_wrong_place pm_wrong_place cd_wrong_place ct_wrong_place : Value}
    (a_wrong_place : PySem.W.nsIn K mainGlobals "wrong_place" = some (some (.ref f_wrong_place))) (l_wrong_place : K.lookup f_wrong_place = some ⟨oc_wrong_place, od_wrong_place, .func (PySem.W.fnOf "wrong_place" "wrong_place" (defArgs s_wrong_place) (defBody s_wrong_place) (defScope s_wrong_place) .none kV_wrong_place dc_wrong_place pm_wrong_place an_wrong_place cd_wrong_place ct_wrong_place), sl_wrong_place⟩) (c_wrong_place : PySem.W.codeIn K cd_wrong_place "wrong_place" = true) (k_wrong_place : PySem.W.keepIn K (.ref f_wrong_place) = true)
    {f_check_order_of : Addr} {od_check_order_of an_check_order_of : Option Addr} {sl_check_order_of : Array (Option Value)} {oc_check_order_of kV_check_order_of dc_check_order_of pm_check_order_of cd_check_order_of ct_check_order_of : Value}
    (a_check_order_of : PySem.W.nsIn K mainGlobals "check_order_of" = some (some (.ref f_check_order_of))) (l_check_order_of : K.lookup f_check_order_of = some ⟨oc_check_order_of, od_check_order_of, .func (PySem.W.fnOf "check_order_of" "check_order_of" (defArgs s_check_order_of) (defBody s_check_order_of) (defScope s_check_order_of) .none kV_check_order_of dc_check_order_of pm_check_order_of an_check_order_of cd_check_order_of ct_check_order_of), sl_check_order_of⟩) (c_check_order_of : PySem.W.codeIn K cd_check_order_of "check_order_of" = true) (k_check_order_of : PySem.W.keepIn K (.ref f_check_order_of) = true)
    {f_check_standing : Addr} {od_check_standing an_check_standing : Option Addr} {sl_check_standing : Array (Option Value)} {oc_check_standing kV_check_standing dc_check_standing pm_check_standing cd_check_standing ct_check_standing : Value}
    (a_check_standing : PySem.W.nsIn K mainGlobals "check_standing" = some (some (.ref f_check_standing))) (l_check_standing : K.lookup f_check_standing = some ⟨oc_check_standing, od_check_standing, .func (PySem.W.fnOf "check_standing" "check_standing" (defArgs s_check_standing) (defBody s_check_standing) (defScope s_check_standing) .none kV_check_standing dc_check_standing pm_check_standing an_check_standing cd_check_standing ct_check_standing), sl_check_standing⟩) (c_check_standing : PySem.W.codeIn K cd_check_standing "check_standing" = true) (k_check_standing : PySem.W.keepIn K (.ref f_check_standing) = true)
    {f_called_in : Addr} {od_called_in an_called_in : Option Addr} {sl_called_in : Array (Option Value)} {oc_called_in kV_called_in dc_called_in pm_called_in cd_called_in ct_called_in : Value}
    (a_called_in : PySem.W.nsIn K mainGlobals "called_in" = some (some (.ref f_called_in))) (l_called_in : K.lookup f_called_in = some ⟨oc_called_in, od_called_in, .func (PySem.W.fnOf "called_in" "called_in" (defArgs s_called_in) (defBody s_called_in) (defScope s_called_in) .none kV_called_in dc_called_in pm_called_in an_called_in cd_called_in ct_called_in), sl_called_in⟩) (c_called_in : PySem.W.codeIn K cd_called_in "called_in" = true) (k_called_in : PySem.W.keepIn K (.ref f_called_in) = true)
    {f_Ldraws : Addr} {od_Ldraws an_Ldraws : Option Addr} {sl_Ldraws : Array (Option Value)} {oc_Ldraws kV_Ldraws dc_Ldraws pm_Ldraws cd_Ldraws ct_Ldraws : Value}
    (a_Ldraws : PySem.W.nsIn K mainGlobals "_law_draws" = some (some (.ref f_Ldraws))) (l_Ldraws : K.lookup f_Ldraws = some ⟨oc_Ldraws, od_Ldraws, .func (PySem.W.fnOf "_law_draws" "_law_draws" (defArgs s_Ldraws) (defBody s_Ldraws) (defScope s_Ldraws) .none kV_Ldraws dc_Ldraws pm_Ldraws an_Ldraws cd_Ldraws ct_Ldraws), sl_Ldraws⟩) (c_Ldraws : PySem.W.codeIn K cd_Ldraws "_law_draws" = true) (k_Ldraws : PySem.W.keepIn K (.ref f_Ldraws) = true)
    {f_Lnext : Addr} {od_Lnext an_Lnext : Option Addr} {sl_Lnext : Array (Option Value)} {oc_Lnext kV_Lnext dc_Lnext pm_Lnext cd_Lnext ct_Lnext : Value}
    (a_Lnext : PySem.W.nsIn K mainGlobals "_law_next" = some (some (.ref f_Lnext))) (l_Lnext : K.lookup f_Lnext = some ⟨oc_Lnext, od_Lnext, .func (PySem.W.fnOf "_law_next" "_law_next" (defArgs s_Lnext) (defBody s_Lnext) (defScope s_Lnext) .none kV_Lnext dc_Lnext pm_Lnext an_Lnext cd_Lnext ct_Lnext), sl_Lnext⟩) (c_Lnext : PySem.W.codeIn K cd_Lnext "_law_next" = true) (k_Lnext : PySem.W.keepIn K (.ref f_Lnext) = true)
    {f_Lmixed : Addr} {od_Lmixed an_Lmixed : Option Addr} {sl_Lmixed : Array (Option Value)} {oc_Lmixed kV_Lmixed dc_Lmixed pm_Lmixed cd_Lmixed ct_Lmixed : Value}
    (a_Lmixed : PySem.W.nsIn K mainGlobals "_law_mixed" = some (some (.ref f_Lmixed))) (l_Lmixed : K.lookup f_Lmixed = some ⟨oc_Lmixed, od_Lmixed, .func (PySem.W.fnOf "_law_mixed" "_law_mixed" (defArgs s_Lmixed) (defBody s_Lmixed) (defScope s_Lmixed) .none kV_Lmixed dc_Lmixed pm_Lmixed an_Lmixed cd_Lmixed ct_Lmixed), sl_Lmixed⟩) (c_Lmixed : PySem.W.codeIn K cd_Lmixed "_law_mixed" = true) (k_Lmixed : PySem.W.keepIn K (.ref f_Lmixed) = true)
    {f_Lnet : Addr} {od_Lnet an_Lnet : Option Addr} {sl_Lnet : Array (Option Value)} {oc_Lnet kV_Lnet dc_Lnet pm_Lnet cd_Lnet ct_Lnet : Value}
    (a_Lnet : PySem.W.nsIn K mainGlobals "_law_net" = some (some (.ref f_Lnet))) (l_Lnet : K.lookup f_Lnet = some ⟨oc_Lnet, od_Lnet, .func (PySem.W.fnOf "_law_net" "_law_net" (defArgs s_Lnet) (defBody s_Lnet) (defScope s_Lnet) .none kV_Lnet dc_Lnet pm_Lnet an_Lnet cd_Lnet ct_Lnet), sl_Lnet⟩) (c_Lnet : PySem.W.codeIn K cd_Lnet "_law_net" = true) (k_Lnet : PySem.W.keepIn K (.ref f_Lnet) = true)
    {f_Lcaught : Addr} {od_Lcaught an_Lcaught : Option Addr} {sl_Lcaught : Array (Option Value)} {oc_Lcaught kV_Lcaught dc_Lcaught pm_Lcaught cd_Lcaught ct_Lcaught : Value}
    (a_Lcaught : PySem.W.nsIn K mainGlobals "_law_caught" = some (some (.ref f_Lcaught))) (l_Lcaught : K.lookup f_Lcaught = some ⟨oc_Lcaught, od_Lcaught, .func (PySem.W.fnOf "_law_caught" "_law_caught" (defArgs s_Lcaught) (defBody s_Lcaught) (defScope s_Lcaught) .none kV_Lcaught dc_Lcaught pm_Lcaught an_Lcaught cd_Lcaught ct_Lcaught), sl_Lcaught⟩) (c_Lcaught : PySem.W.codeIn K cd_Lcaught "_law_caught" = true) (k_Lcaught : PySem.W.keepIn K (.ref f_Lcaught) = true)
    {f_Lbent : Addr} {od_Lbent an_Lbent : Option Addr} {sl_Lbent : Array (Option Value)} {oc_Lbent kV_Lbent dc_Lbent pm_Lbent cd_Lbent ct_Lbent : Value}
    (a_Lbent : PySem.W.nsIn K mainGlobals "_law_bent" = some (some (.ref f_Lbent))) (l_Lbent : K.lookup f_Lbent = some ⟨oc_Lbent, od_Lbent, .func (PySem.W.fnOf "_law_bent" "_law_bent" (defArgs s_Lbent) (defBody s_Lbent) (defScope s_Lbent) .none kV_Lbent dc_Lbent pm_Lbent an_Lbent cd_Lbent ct_Lbent), sl_Lbent⟩) (c_Lbent : PySem.W.codeIn K cd_Lbent "_law_bent" = true) (k_Lbent : PySem.W.keepIn K (.ref f_Lbent) = true)
    {f_Lmade_right : Addr} {od_Lmade_right an_Lmade_right : Option Addr} {sl_Lmade_right : Array (Option Value)} {oc_Lmade_right kV_Lmade_right dc_Lmade_right pm_Lmade_right cd_Lmade_right ct_Lmade_right : Value}
    (a_Lmade_right : PySem.W.nsIn K mainGlobals "_law_made_right" = some (some (.ref f_Lmade_right))) (l_Lmade_right : K.lookup f_Lmade_right = some ⟨oc_Lmade_right, od_Lmade_right, .func (PySem.W.fnOf "_law_made_right" "_law_made_right" (defArgs s_Lmade_right) (defBody s_Lmade_right) (defScope s_Lmade_right) .none kV_Lmade_right dc_Lmade_right pm_Lmade_right an_Lmade_right cd_Lmade_right ct_Lmade_right), sl_Lmade_right⟩) (c_Lmade_right : PySem.W.codeIn K cd_Lmade_right "_law_made_right" = true) (k_Lmade_right : PySem.W.keepIn K (.ref f_Lmade_right) = true)
    {cc_Lmade_right pp_Lmade_right : Addr} {tc_Lmade_right : Value} {td_Lmade_right : Option Addr} {tv_Lmade_right : Array Value} {ts_Lmade_right : Array (Option Value)} {dr_Lmade_right : DefRec} (e_Lmade_right : cd_Lmade_right = .ref cc_Lmade_right) (d_Lmade_right : K.lookup cc_Lmade_right = some ⟨tc_Lmade_right, td_Lmade_right, .fields tv_Lmade_right, ts_Lmade_right⟩) (q_Lmade_right : (tv_Lmade_right[11]? : Option Value) = some (.ref pp_Lmade_right)) (r_Lmade_right : (recsOf q).find? (fun e => e.name == ("_law_made_right" : Str)) = some dr_Lmade_right) (n_Lmade_right : K.lookup pp_Lmade_right = none)
    (lt_Lmade_right : lamT pp_Lmade_right = some (("_law_made_right" : Str) ++ ".<locals>." ++ "<lambda>"))
    {f_Lshown : Addr} {od_Lshown an_Lshown : Option Addr} {sl_Lshown : Array (Option Value)} {oc_Lshown kV_Lshown dc_Lshown pm_Lshown cd_Lshown ct_Lshown : Value}
    (a_Lshown : PySem.W.nsIn K mainGlobals "_law_shown" = some (some (.ref f_Lshown))) (l_Lshown : K.lookup f_Lshown = some ⟨oc_Lshown, od_Lshown, .func (PySem.W.fnOf "_law_shown" "_law_shown" (defArgs s_Lshown) (defBody s_Lshown) (defScope s_Lshown) .none kV_Lshown dc_Lshown pm_Lshown an_Lshown cd_Lshown ct_Lshown), sl_Lshown⟩) (c_Lshown : PySem.W.codeIn K cd_Lshown "_law_shown" = true) (k_Lshown : PySem.W.keepIn K (.ref f_Lshown) = true)
    {f_Ldeeds_right : Addr} {od_Ldeeds_right an_Ldeeds_right : Option Addr} {sl_Ldeeds_right : Array (Option Value)} {oc_Ldeeds_right kV_Ldeeds_right dc_Ldeeds_right pm_Ldeeds_right cd_Ldeeds_right ct_Ldeeds_right : Value}
    (a_Ldeeds_right : PySem.W.nsIn K mainGlobals "_law_deeds_right" = some (some (.ref f_Ldeeds_right))) (l_Ldeeds_right : K.lookup f_Ldeeds_right = some ⟨oc_Ldeeds_right, od_Ldeeds_right, .func (PySem.W.fnOf "_law_deeds_right" "_law_deeds_right" (defArgs s_Ldeeds_right) (defBody s_Ldeeds_right) (defScope s_Ldeeds_right) .none kV_Ldeeds_right dc_Ldeeds_right pm_Ldeeds_right an_Ldeeds_right cd_Ldeeds_right ct_Ldeeds_right), sl_Ldeeds_right⟩) (c_Ldeeds_right : PySem.W.codeIn K cd_Ldeeds_right "_law_deeds_right" = true) (k_Ldeeds_right : PySem.W.keepIn K (.ref f_Ldeeds_right) = true)
    {cc_Ldeeds_right pp_Ldeeds_right : Addr} {tc_Ldeeds_right : Value} {td_Ldeeds_right : Option Addr} {tv_Ldeeds_right : Array Value} {ts_Ldeeds_right : Array (Option Value)} {dr_Ldeeds_right : DefRec} (e_Ldeeds_right : cd_Ldeeds_right = .ref cc_Ldeeds_right) (d_Ldeeds_right : K.lookup cc_Ldeeds_right = some ⟨tc_Ldeeds_right, td_Ldeeds_right, .fields tv_Ldeeds_right, ts_Ldeeds_right⟩) (q_Ldeeds_right : (tv_Ldeeds_right[11]? : Option Value) = some (.ref pp_Ldeeds_right)) (r_Ldeeds_right : (recsOf q).find? (fun e => e.name == ("_law_deeds_right" : Str)) = some dr_Ldeeds_right) (n_Ldeeds_right : K.lookup pp_Ldeeds_right = none)
    (lt_Ldeeds_right : lamT pp_Ldeeds_right = some (("_law_deeds_right" : Str) ++ ".<locals>." ++ "<lambda>"))
    {f_Lright : Addr} {od_Lright an_Lright : Option Addr} {sl_Lright : Array (Option Value)} {oc_Lright kV_Lright dc_Lright pm_Lright cd_Lright ct_Lright : Value}
    (a_Lright : PySem.W.nsIn K mainGlobals "_law_right" = some (some (.ref f_Lright))) (l_Lright : K.lookup f_Lright = some ⟨oc_Lright, od_Lright, .func (PySem.W.fnOf "_law_right" "_law_right" (defArgs s_Lright) (defBody s_Lright) (defScope s_Lright) .none kV_Lright dc_Lright pm_Lright an_Lright cd_Lright ct_Lright), sl_Lright⟩) (c_Lright : PySem.W.codeIn K cd_Lright "_law_right" = true) (k_Lright : PySem.W.keepIn K (.ref f_Lright) = true)
    {cc_Lright pp_Lright : Addr} {tc_Lright : Value} {td_Lright : Option Addr} {tv_Lright : Array Value} {ts_Lright : Array (Option Value)} {dr_Lright : DefRec} (e_Lright : cd_Lright = .ref cc_Lright) (d_Lright : K.lookup cc_Lright = some ⟨tc_Lright, td_Lright, .fields tv_Lright, ts_Lright⟩) (q_Lright : (tv_Lright[11]? : Option Value) = some (.ref pp_Lright)) (r_Lright : (recsOf q).find? (fun e => e.name == ("_law_right" : Str)) = some dr_Lright) (n_Lright : K.lookup pp_Lright = none)
    (lt_Lright : lamT pp_Lright = some (("_law_right" : Str) ++ ".<locals>." ++ "<lambda>"))
    {f_law : Addr} {od_law an_law : Option Addr} {sl_law : Array (Option Value)} {oc_law kV_law dc_law pm_law cd_law ct_law : Value}
    (a_law : PySem.W.nsIn K mainGlobals "law" = some (some (.ref f_law))) (l_law : K.lookup f_law = some ⟨oc_law, od_law, .func (PySem.W.fnOf "law" "law" (defArgs s_law) (defBody s_law) (defScope s_law) .none kV_law dc_law pm_law an_law cd_law ct_law), sl_law⟩) (c_law : PySem.W.codeIn K cd_law "law" = true) (k_law : PySem.W.keepIn K (.ref f_law) = true)
    : LawIs l w K CX0 13 "_law_script" mg fa h := by
  have e := hfa.symm.trans (PySem.W.mg_of X T0.g a_law)
  cases e
  have F_Room___init__ := fun_mk (st := s_Room___init__) l_Room___init__ c_Room___init__ k_Room___init__
  have b_Room___init__ := F_Room___init__.binds (ps := ["self", "seats", "ties", "standing"]) fun _ _ _ _ _ _ us hl => match us, hl with | [_, _, _, _], _ => rfl
  have kr_Room := kbn_back F_Room___init__ (ps := ["self", "seats", "ties", "standing"]) (ks := ["standing", "ties", "seats"]) fun _ _ _ _ _ _ us ws h1 h2 => match us, ws, h1, h2 with | [_], [_, _, _], _, _ => rfl
  have F_Room_seats := fun_mk (st := s_Room_seats) l_Room_seats c_Room_seats k_Room_seats
  have b_Room_seats := F_Room_seats.binds (ps := ["self"]) fun _ _ _ _ _ _ us hl => match us, hl with | [_], _ => rfl
  have F_Room_ties := fun_mk (st := s_Room_ties) l_Room_ties c_Room_ties k_Room_ties
  have b_Room_ties := F_Room_ties.binds (ps := ["self"]) fun _ _ _ _ _ _ us hl => match us, hl with | [_], _ => rfl
  have F_Room_standing := fun_mk (st := s_Room_standing) l_Room_standing c_Room_standing k_Room_standing
  have b_Room_standing := F_Room_standing.binds (ps := ["self"]) fun _ _ _ _ _ _ us hl => match us, hl with | [_], _ => rfl
  have F_Room_changes := fun_mk (st := s_Room_changes) l_Room_changes c_Room_changes k_Room_changes
  have b_Room_changes := F_Room_changes.binds (ps := ["self"]) fun _ _ _ _ _ _ us hl => match us, hl with | [_], _ => rfl
  have F_Room___len__ := fun_mk (st := s_Room___len__) l_Room___len__ c_Room___len__ k_Room___len__
  have b_Room___len__ := F_Room___len__.binds (ps := ["self"]) fun _ _ _ _ _ _ us hl => match us, hl with | [_], _ => rfl
  have F_Room_make := fun_mk (st := s_Room_make) l_Room_make c_Room_make k_Room_make
  have b_Room_make := F_Room_make.binds (ps := ["self", "calls"]) fun _ _ _ _ _ _ us hl => match us, hl with | [_, _], _ => rfl
  have y_Room_make := by1 F_Room_make (a := "self") (b := "calls") fun _ _ _ _ _ _ _ _ => rfl
  have F_Room_call := fun_mk (st := s_Room_call) l_Room_call c_Room_call k_Room_call
  have b_Room_call := F_Room_call.binds (ps := ["self", "number"]) fun _ _ _ _ _ _ us hl => match us, hl with | [_, _], _ => rfl
  have y_Room_call := by1 F_Room_call (a := "self") (b := "number") fun _ _ _ _ _ _ _ _ => rfl
  have F_Room_round := fun_mk (st := s_Room_round) l_Room_round c_Room_round k_Room_round
  have b_Room_round := F_Room_round.binds (ps := ["self", "order"]) fun _ _ _ _ _ _ us hl => match us, hl with | [_, _], _ => rfl
  have y_Room_round := by1 F_Room_round (a := "self") (b := "order") fun _ _ _ _ _ _ _ _ => rfl
  have F_Room_round_back := fun_mk (st := s_Room_round_back) l_Room_round_back c_Room_round_back k_Room_round_back
  have b_Room_round_back := F_Room_round_back.binds (ps := ["self", "order"]) fun _ _ _ _ _ _ us hl => match us, hl with | [_, _], _ => rfl
  have y_Room_round_back := by1 F_Room_round_back (a := "self") (b := "order") fun _ _ _ _ _ _ _ _ => rfl
  have F_Room_run := fun_mk (st := s_Room_run) l_Room_run c_Room_run k_Room_run
  have b_Room_run := F_Room_run.binds (ps := ["self", "calls"]) fun _ _ _ _ _ _ us hl => match us, hl with | [_, _], _ => rfl
  have y_Room_run := by1 F_Room_run (a := "self") (b := "calls") fun _ _ _ _ _ _ _ _ => rfl
  have F_Room_undo := fun_mk (st := s_Room_undo) l_Room_undo c_Room_undo k_Room_undo
  have b_Room_undo := F_Room_undo.binds (ps := ["self"]) fun _ _ _ _ _ _ us hl => match us, hl with | [_], _ => rfl
  have F_is_whole := fun_mk (st := s_is_whole) l_is_whole c_is_whole k_is_whole
  have b_is_whole := F_is_whole.binds (ps := ["thing"]) fun _ _ _ _ _ _ us hl => match us, hl with | [_], _ => rfl
  have F_is_within := fun_mk (st := s_is_within) l_is_within c_is_within k_is_within
  have b_is_within := F_is_within.binds (ps := ["thing", "most"]) fun _ _ _ _ _ _ us hl => match us, hl with | [_, _], _ => rfl
  have F_check_seats := fun_mk (st := s_check_seats) l_check_seats c_check_seats k_check_seats
  have b_check_seats := F_check_seats.binds (ps := ["seats"]) fun _ _ _ _ _ _ us hl => match us, hl with | [_], _ => rfl
  have t_check_ties := tab_mk a_check_ties l_check_ties e_check_ties d_check_ties q_check_ties
  have F_check_ties := fun_mk (st := s_check_ties) l_check_ties c_check_ties k_check_ties
  have b_check_ties := F_check_ties.binds (ps := ["seats", "ties"]) fun _ _ _ _ _ _ us hl => match us, hl with | [_, _], _ => rfl
  have F_check_net := fun_mk (st := s_check_net) l_check_net c_check_net k_check_net
  have b_check_net := F_check_net.binds (ps := ["seats", "ties"]) fun _ _ _ _ _ _ us hl => match us, hl with | [_, _], _ => rfl
  have F_near_in := fun_mk (st := s_near_in) l_near_in c_near_in k_near_in
  have b_near_in := F_near_in.binds (ps := ["seats", "ties"]) fun _ _ _ _ _ _ us hl => match us, hl with | [_, _], _ => rfl
  have F_next_round := fun_mk (st := s_next_round) l_next_round c_next_round k_next_round
  have b_next_round := F_next_round.binds (ps := ["number", "count"]) fun _ _ _ _ _ _ us hl => match us, hl with | [_, _], _ => rfl
  have F_wrong_place := fun_mk (st := s_wrong_place) l_wrong_place c_wrong_place k_wrong_place
  have b_wrong_place := F_wrong_place.binds (ps := ["things", "count"]) fun _ _ _ _ _ _ us hl => match us, hl with | [_, _], _ => rfl
  have F_check_order_of := fun_mk (st := s_check_order_of) l_check_order_of c_check_order_of k_check_order_of
  have b_check_order_of := F_check_order_of.binds (ps := ["order", "count"]) fun _ _ _ _ _ _ us hl => match us, hl with | [_, _], _ => rfl
  have F_check_standing := fun_mk (st := s_check_standing) l_check_standing c_check_standing k_check_standing
  have b_check_standing := F_check_standing.binds (ps := ["seats", "standing"]) fun _ _ _ _ _ _ us hl => match us, hl with | [_, _], _ => rfl
  have F_called_in := fun_mk (st := s_called_in) l_called_in c_called_in k_called_in
  have b_called_in := F_called_in.binds (ps := ["near", "standing", "calls"]) fun _ _ _ _ _ _ us hl => match us, hl with | [_, _, _], _ => rfl
  have F_Ldraws := fun_mk (st := s_Ldraws) l_Ldraws c_Ldraws k_Ldraws
  have b_Ldraws := F_Ldraws.binds (ps := ["_law_cell"]) fun _ _ _ _ _ _ us hl => match us, hl with | [_], _ => rfl
  have F_Lnext := fun_mk (st := s_Lnext) l_Lnext c_Lnext k_Lnext
  have b_Lnext := F_Lnext.binds (ps := ["_law_draws_here"]) fun _ _ _ _ _ _ us hl => match us, hl with | [_], _ => rfl
  have F_Lmixed := fun_mk (st := s_Lmixed) l_Lmixed c_Lmixed k_Lmixed
  have b_Lmixed := F_Lmixed.binds (ps := ["_law_draws_here", "_law_some"]) fun _ _ _ _ _ _ us hl => match us, hl with | [_, _], _ => rfl
  have F_Lnet := fun_mk (st := s_Lnet) l_Lnet c_Lnet k_Lnet
  have b_Lnet := F_Lnet.binds (ps := ["_law_draws_here", "_law_most"]) fun _ _ _ _ _ _ us hl => match us, hl with | [_, _], _ => rfl
  have F_Lcaught := fun_mk (st := s_Lcaught) l_Lcaught c_Lcaught k_Lcaught
  have b_Lcaught := F_Lcaught.binds (ps := ["_law_ask"]) fun _ _ _ _ _ _ us hl => match us, hl with | [_], _ => rfl
  have F_Lbent := fun_mk (st := s_Lbent) l_Lbent c_Lbent k_Lbent
  have b_Lbent := F_Lbent.binds (ps := ["_law_row"]) fun _ _ _ _ _ _ us hl => match us, hl with | [_], _ => rfl
  have t_Lmade_right := tab_mk a_Lmade_right l_Lmade_right e_Lmade_right d_Lmade_right q_Lmade_right
  have F_Lmade_right := fun_mk (st := s_Lmade_right) l_Lmade_right c_Lmade_right k_Lmade_right
  have b_Lmade_right := F_Lmade_right.binds (ps := ["_law_seats", "_law_ties", "_law_standing"]) fun _ _ _ _ _ _ us hl => match us, hl with | [_, _, _], _ => rfl
  have F_Lshown := fun_mk (st := s_Lshown) l_Lshown c_Lshown k_Lshown
  have b_Lshown := F_Lshown.binds (ps := ["_law_room"]) fun _ _ _ _ _ _ us hl => match us, hl with | [_], _ => rfl
  have t_Ldeeds_right := tab_mk a_Ldeeds_right l_Ldeeds_right e_Ldeeds_right d_Ldeeds_right q_Ldeeds_right
  have F_Ldeeds_right := fun_mk (st := s_Ldeeds_right) l_Ldeeds_right c_Ldeeds_right k_Ldeeds_right
  have b_Ldeeds_right := F_Ldeeds_right.binds (ps := ["_law_room", "_law_order"]) fun _ _ _ _ _ _ us hl => match us, hl with | [_, _], _ => rfl
  have t_Lright := tab_mk a_Lright l_Lright e_Lright d_Lright q_Lright
  have F_Lright := fun_mk (st := s_Lright) l_Lright c_Lright k_Lright
  have b_Lright := F_Lright.binds (ps := ["_law_seats", "_law_ties", "_law_standing", "_law_order"]) fun _ _ _ _ _ _ us hl => match us, hl with | [_, _, _, _], _ => rfl
  have F_law := fun_mk (st := s_law) l_law c_law k_law
  have b_law := F_law.binds (ps := ["_law_script"]) fun _ _ _ _ _ _ us hl => match us, hl with | [_], _ => rfl
  have xz_InvalidNumber : ErrX l.prog K mg "ValueError" "ValueError.__new__" "ValueError.__init__" [.type "ValueError", .type "Exception", .type "BaseException", .type "object"] X_InvalidNumber xf_InvalidNumber "number" "number" := by
    refine ⟨PySem.W.mg_none_of X T0.g gs_super, by decide +kernel, gt_super, go_super, ⟨_, _, _, _, _, _, _, _, _, _, _, _, _, _, yk_InvalidNumber.trans (congrArg some ye_InvalidNumber)⟩, ya_InvalidNumber, yn_InvalidNumber, nb_InvalidNumber_ValueError, yi_InvalidNumber, yt_InvalidNumber, ?_, by decide, by decide⟩
    refine ⟨_, _, _, _, _, _, _, _, _, _, _, _, _, _, _, _, _, _, _, _, s_InvalidNumber___init__, _, _, _, _, _, _, _, _, _, _, _, yl_InvalidNumber, yc_InvalidNumber, yd_InvalidNumber, yv_InvalidNumber, yf_InvalidNumber, yq_InvalidNumber, rfl, rfl, ?_⟩
    refine ⟨rfl, fun s u v => .of_eq rfl, rfl, rfl, rfl, rfl, rfl, rfl, rfl, ?_, ?_⟩
    · show ∀ y ∈ (defScope s_InvalidNumber___init__).names, y.2 ≠ .cell
      decide +kernel
    · exact fun L => ⟨rfl, _, rfl⟩
  have xz_InvalidOrder : ErrX l.prog K mg "ValueError" "ValueError.__new__" "ValueError.__init__" [.type "ValueError", .type "Exception", .type "BaseException", .type "object"] X_InvalidOrder xf_InvalidOrder "index" "index" := by
    refine ⟨PySem.W.mg_none_of X T0.g gs_super, by decide +kernel, gt_super, go_super, ⟨_, _, _, _, _, _, _, _, _, _, _, _, _, _, yk_InvalidOrder.trans (congrArg some ye_InvalidOrder)⟩, ya_InvalidOrder, yn_InvalidOrder, nb_InvalidOrder_ValueError, yi_InvalidOrder, yt_InvalidOrder, ?_, by decide, by decide⟩
    refine ⟨_, _, _, _, _, _, _, _, _, _, _, _, _, _, _, _, _, _, _, _, s_InvalidOrder___init__, _, _, _, _, _, _, _, _, _, _, _, yl_InvalidOrder, yc_InvalidOrder, yd_InvalidOrder, yv_InvalidOrder, yf_InvalidOrder, yq_InvalidOrder, rfl, rfl, ?_⟩
    refine ⟨rfl, fun s u v => .of_eq rfl, rfl, rfl, rfl, rfl, rfl, rfl, rfl, ?_, ?_⟩
    · show ∀ y ∈ (defScope s_InvalidOrder___init__).names, y.2 ≠ .cell
      decide +kernel
    · exact fun L => ⟨rfl, _, rfl⟩
  have xz_InvalidStanding : ErrX l.prog K mg "ValueError" "ValueError.__new__" "ValueError.__init__" [.type "ValueError", .type "Exception", .type "BaseException", .type "object"] X_InvalidStanding xf_InvalidStanding "index" "index" := by
    refine ⟨PySem.W.mg_none_of X T0.g gs_super, by decide +kernel, gt_super, go_super, ⟨_, _, _, _, _, _, _, _, _, _, _, _, _, _, yk_InvalidStanding.trans (congrArg some ye_InvalidStanding)⟩, ya_InvalidStanding, yn_InvalidStanding, nb_InvalidStanding_ValueError, yi_InvalidStanding, yt_InvalidStanding, ?_, by decide, by decide⟩
    refine ⟨_, _, _, _, _, _, _, _, _, _, _, _, _, _, _, _, _, _, _, _, s_InvalidStanding___init__, _, _, _, _, _, _, _, _, _, _, _, yl_InvalidStanding, yc_InvalidStanding, yd_InvalidStanding, yv_InvalidStanding, yf_InvalidStanding, yq_InvalidStanding, rfl, rfl, ?_⟩
    refine ⟨rfl, fun s u v => .of_eq rfl, rfl, rfl, rfl, rfl, rfl, rfl, rfl, ?_, ?_⟩
    · show ∀ y ∈ (defScope s_InvalidStanding___init__).names, y.2 ≠ .cell
      decide +kernel
    · exact fun L => ⟨rfl, _, rfl⟩
  have xz_InvalidTies : ErrX l.prog K mg "ValueError" "ValueError.__new__" "ValueError.__init__" [.type "ValueError", .type "Exception", .type "BaseException", .type "object"] X_InvalidTies xf_InvalidTies "index" "index" := by
    refine ⟨PySem.W.mg_none_of X T0.g gs_super, by decide +kernel, gt_super, go_super, ⟨_, _, _, _, _, _, _, _, _, _, _, _, _, _, yk_InvalidTies.trans (congrArg some ye_InvalidTies)⟩, ya_InvalidTies, yn_InvalidTies, nb_InvalidTies_ValueError, yi_InvalidTies, yt_InvalidTies, ?_, by decide, by decide⟩
    refine ⟨_, _, _, _, _, _, _, _, _, _, _, _, _, _, _, _, _, _, _, _, s_InvalidTies___init__, _, _, _, _, _, _, _, _, _, _, _, yl_InvalidTies, yc_InvalidTies, yd_InvalidTies, yv_InvalidTies, yf_InvalidTies, yq_InvalidTies, rfl, rfl, ?_⟩
    refine ⟨rfl, fun s u v => .of_eq rfl, rfl, rfl, rfl, rfl, rfl, rfl, rfl, ?_, ?_⟩
    · show ∀ y ∈ (defScope s_InvalidTies___init__).names, y.2 ≠ .cell
      decide +kernel
    · exact fun L => ⟨rfl, _, rfl⟩
  have xz_UnknownCall : ErrX l.prog K mg "LookupError" "LookupError.__new__" "LookupError.__init__" [.type "LookupError", .type "Exception", .type "BaseException", .type "object"] X_UnknownCall xf_UnknownCall "number" "number" := by
    refine ⟨PySem.W.mg_none_of X T0.g gs_super, by decide +kernel, gt_super, go_super, ⟨_, _, _, _, _, _, _, _, _, _, _, _, _, _, yk_UnknownCall.trans (congrArg some ye_UnknownCall)⟩, ya_UnknownCall, yn_UnknownCall, nb_UnknownCall_LookupError, yi_UnknownCall, yt_UnknownCall, ?_, by decide, by decide⟩
    refine ⟨_, _, _, _, _, _, _, _, _, _, _, _, _, _, _, _, _, _, _, _, s_UnknownCall___init__, _, _, _, _, _, _, _, _, _, _, _, yl_UnknownCall, yc_UnknownCall, yd_UnknownCall, yv_UnknownCall, yf_UnknownCall, yq_UnknownCall, rfl, rfl, ?_⟩
    refine ⟨rfl, fun s u v => .of_eq rfl, rfl, rfl, rfl, rfl, rfl, rfl, rfl, ?_, ?_⟩
    · show ∀ y ∈ (defScope s_UnknownCall___init__).names, y.2 ≠ .cell
      decide +kernel
    · exact fun L => ⟨rfl, _, rfl⟩
  refine ⟨PySem.W.fnOf "law" "law" (defArgs s_law) (defBody s_law) (defScope s_law) .none kV_law dc_law pm_law an_law cd_law ct_law, [(cc_check_ties, pp_check_ties), (cc_Lmade_right, pp_Lmade_right), (cc_Ldeeds_right, pp_Ldeeds_right), (cc_Lright, pp_Lright)], spLaw0 K [pp_check_ties, pp_Lmade_right, pp_Ldeeds_right, pp_Lright], fun p hp => ?_, fun p hp => ?_, fun s u => .of_eq rfl, fun H a ns hl _ hT hS => ⟨a, ns, rfl, hS, hl, fun b hb => ?_, fun _ => rfl⟩, fun base hk hn hTB => ?_⟩
  rotate_right
  · exact ok_law (base := base) {
    n_LookupError := PySem.W.mg_none_of X T0.g z_LookupError
    n_ValueError := PySem.W.mg_none_of X T0.g z_ValueError
    n_all := PySem.W.mg_none_of X T0.g z_all
    n_bool := PySem.W.mg_none_of X T0.g z_bool
    n_enumerate := PySem.W.mg_none_of X T0.g z_enumerate
    n_int := PySem.W.mg_none_of X T0.g z_int
    n_isinstance := PySem.W.mg_none_of X T0.g z_isinstance
    n_len := PySem.W.mg_none_of X T0.g z_len
    n_list := PySem.W.mg_none_of X T0.g z_list
    n_max := PySem.W.mg_none_of X T0.g z_max
    n_min := PySem.W.mg_none_of X T0.g z_min
    n_range := PySem.W.mg_none_of X T0.g z_range
    n_repr := PySem.W.mg_none_of X T0.g z_repr
    n_set := PySem.W.mg_none_of X T0.g z_set
    n_tuple := PySem.W.mg_none_of X T0.g z_tuple
    n_zip := PySem.W.mg_none_of X T0.g z_zip
    t_FEWEST_SEATS := t_FEWEST_SEATS
    v_FEWEST_SEATS := PySem.W.mg_of X T0.g z_FEWEST_SEATS
    t_MOST_SEATS := t_MOST_SEATS
    v_MOST_SEATS := PySem.W.mg_of X T0.g z_MOST_SEATS
    C_Room := C_Room, mC_Room := PySem.W.mg_of X T0.g jc_Room, cl_Room := ⟨jp_Room, jd_Room, jo_Room, js_Room⟩
    nA_Room_many := ja_Room_many
    nA_Room_pairs := ja_Room_pairs
    nA_Room_near := ja_Room_near
    nA_Room_row := ja_Room_row
    nA_Room_changed := ja_Room_changed
    nA_Room_past := ja_Room_past
    X_InvalidNumber := X_InvalidNumber, xm_InvalidNumber := PySem.W.mg_of X T0.g xm_InvalidNumber, xk_InvalidNumber := xk_InvalidNumber, xs_InvalidNumber := xs_InvalidNumber, xt_InvalidNumber := xt_InvalidNumber, xC_InvalidNumber := ⟨x1_InvalidNumber, x2_InvalidNumber, xs_InvalidNumber, x3_InvalidNumber, x4_InvalidNumber, x5_InvalidNumber, x6_InvalidNumber, x7_InvalidNumber⟩, xe_InvalidNumber := exm_own xs_InvalidNumber x8_InvalidNumber xt_InvalidNumber x9_InvalidNumber, xf_InvalidNumber := xf_InvalidNumber, xz_InvalidNumber := xz_InvalidNumber
    xn_InvalidNumber := ns_InvalidNumber, kb_InvalidNumber_ValueError := kit_bi nb_InvalidNumber_ValueError, kb_InvalidNumber_LookupError := kit_bi nb_InvalidNumber_LookupError
    kk_InvalidNumber_InvalidNumber := kit_yes
    kk_InvalidNumber_InvalidOrder := kit_no np_InvalidNumber_InvalidOrder x9_InvalidNumber x8_InvalidOrder xt_InvalidOrder
    kk_InvalidNumber_InvalidStanding := kit_no np_InvalidNumber_InvalidStanding x9_InvalidNumber x8_InvalidStanding xt_InvalidStanding
    kk_InvalidNumber_InvalidTies := kit_no np_InvalidNumber_InvalidTies x9_InvalidNumber x8_InvalidTies xt_InvalidTies
    kk_InvalidNumber_NothingToUndo := kit_no np_InvalidNumber_NothingToUndo x9_InvalidNumber x8_NothingToUndo xt_NothingToUndo
    kk_InvalidNumber_UnknownCall := kit_no np_InvalidNumber_UnknownCall x9_InvalidNumber x8_UnknownCall xt_UnknownCall
    X_InvalidOrder := X_InvalidOrder, xm_InvalidOrder := PySem.W.mg_of X T0.g xm_InvalidOrder, xk_InvalidOrder := xk_InvalidOrder, xs_InvalidOrder := xs_InvalidOrder, xt_InvalidOrder := xt_InvalidOrder, xC_InvalidOrder := ⟨x1_InvalidOrder, x2_InvalidOrder, xs_InvalidOrder, x3_InvalidOrder, x4_InvalidOrder, x5_InvalidOrder, x6_InvalidOrder, x7_InvalidOrder⟩, xe_InvalidOrder := exm_own xs_InvalidOrder x8_InvalidOrder xt_InvalidOrder x9_InvalidOrder, xf_InvalidOrder := xf_InvalidOrder, xz_InvalidOrder := xz_InvalidOrder
    xn_InvalidOrder := ns_InvalidOrder, kb_InvalidOrder_ValueError := kit_bi nb_InvalidOrder_ValueError, kb_InvalidOrder_LookupError := kit_bi nb_InvalidOrder_LookupError
    kk_InvalidOrder_InvalidNumber := kit_no np_InvalidOrder_InvalidNumber x9_InvalidOrder x8_InvalidNumber xt_InvalidNumber
    kk_InvalidOrder_InvalidOrder := kit_yes
    kk_InvalidOrder_InvalidStanding := kit_no np_InvalidOrder_InvalidStanding x9_InvalidOrder x8_InvalidStanding xt_InvalidStanding
    kk_InvalidOrder_InvalidTies := kit_no np_InvalidOrder_InvalidTies x9_InvalidOrder x8_InvalidTies xt_InvalidTies
    kk_InvalidOrder_NothingToUndo := kit_no np_InvalidOrder_NothingToUndo x9_InvalidOrder x8_NothingToUndo xt_NothingToUndo
    kk_InvalidOrder_UnknownCall := kit_no np_InvalidOrder_UnknownCall x9_InvalidOrder x8_UnknownCall xt_UnknownCall
    X_InvalidStanding := X_InvalidStanding, xm_InvalidStanding := PySem.W.mg_of X T0.g xm_InvalidStanding, xk_InvalidStanding := xk_InvalidStanding, xs_InvalidStanding := xs_InvalidStanding, xt_InvalidStanding := xt_InvalidStanding, xC_InvalidStanding := ⟨x1_InvalidStanding, x2_InvalidStanding, xs_InvalidStanding, x3_InvalidStanding, x4_InvalidStanding, x5_InvalidStanding, x6_InvalidStanding, x7_InvalidStanding⟩, xe_InvalidStanding := exm_own xs_InvalidStanding x8_InvalidStanding xt_InvalidStanding x9_InvalidStanding, xf_InvalidStanding := xf_InvalidStanding, xz_InvalidStanding := xz_InvalidStanding
    xn_InvalidStanding := ns_InvalidStanding, kb_InvalidStanding_ValueError := kit_bi nb_InvalidStanding_ValueError, kb_InvalidStanding_LookupError := kit_bi nb_InvalidStanding_LookupError
    kk_InvalidStanding_InvalidNumber := kit_no np_InvalidStanding_InvalidNumber x9_InvalidStanding x8_InvalidNumber xt_InvalidNumber
    kk_InvalidStanding_InvalidOrder := kit_no np_InvalidStanding_InvalidOrder x9_InvalidStanding x8_InvalidOrder xt_InvalidOrder
    kk_InvalidStanding_InvalidStanding := kit_yes
    kk_InvalidStanding_InvalidTies := kit_no np_InvalidStanding_InvalidTies x9_InvalidStanding x8_InvalidTies xt_InvalidTies
    kk_InvalidStanding_NothingToUndo := kit_no np_InvalidStanding_NothingToUndo x9_InvalidStanding x8_NothingToUndo xt_NothingToUndo
    kk_InvalidStanding_UnknownCall := kit_no np_InvalidStanding_UnknownCall x9_InvalidStanding x8_UnknownCall xt_UnknownCall
    X_InvalidTies := X_InvalidTies, xm_InvalidTies := PySem.W.mg_of X T0.g xm_InvalidTies, xk_InvalidTies := xk_InvalidTies, xs_InvalidTies := xs_InvalidTies, xt_InvalidTies := xt_InvalidTies, xC_InvalidTies := ⟨x1_InvalidTies, x2_InvalidTies, xs_InvalidTies, x3_InvalidTies, x4_InvalidTies, x5_InvalidTies, x6_InvalidTies, x7_InvalidTies⟩, xe_InvalidTies := exm_own xs_InvalidTies x8_InvalidTies xt_InvalidTies x9_InvalidTies, xf_InvalidTies := xf_InvalidTies, xz_InvalidTies := xz_InvalidTies
    xn_InvalidTies := ns_InvalidTies, kb_InvalidTies_ValueError := kit_bi nb_InvalidTies_ValueError, kb_InvalidTies_LookupError := kit_bi nb_InvalidTies_LookupError
    kk_InvalidTies_InvalidNumber := kit_no np_InvalidTies_InvalidNumber x9_InvalidTies x8_InvalidNumber xt_InvalidNumber
    kk_InvalidTies_InvalidOrder := kit_no np_InvalidTies_InvalidOrder x9_InvalidTies x8_InvalidOrder xt_InvalidOrder
    kk_InvalidTies_InvalidStanding := kit_no np_InvalidTies_InvalidStanding x9_InvalidTies x8_InvalidStanding xt_InvalidStanding
    kk_InvalidTies_InvalidTies := kit_yes
    kk_InvalidTies_NothingToUndo := kit_no np_InvalidTies_NothingToUndo x9_InvalidTies x8_NothingToUndo xt_NothingToUndo
    kk_InvalidTies_UnknownCall := kit_no np_InvalidTies_UnknownCall x9_InvalidTies x8_UnknownCall xt_UnknownCall
    X_NothingToUndo := X_NothingToUndo, xm_NothingToUndo := PySem.W.mg_of X T0.g xm_NothingToUndo, xk_NothingToUndo := xk_NothingToUndo, xs_NothingToUndo := xs_NothingToUndo, xt_NothingToUndo := xt_NothingToUndo, xC_NothingToUndo := ⟨x1_NothingToUndo, x2_NothingToUndo, xs_NothingToUndo, x3_NothingToUndo, x4_NothingToUndo, x5_NothingToUndo, x6_NothingToUndo, x7_NothingToUndo⟩, xe_NothingToUndo := exm_own xs_NothingToUndo x8_NothingToUndo xt_NothingToUndo x9_NothingToUndo, xi_NothingToUndo := xi_NothingToUndo, xb_NothingToUndo := kit_own rfl xb_NothingToUndo
    xn_NothingToUndo := ns_NothingToUndo, kb_NothingToUndo_ValueError := kit_bi nb_NothingToUndo_ValueError, kb_NothingToUndo_LookupError := kit_bi nb_NothingToUndo_LookupError
    kk_NothingToUndo_InvalidNumber := kit_no np_NothingToUndo_InvalidNumber x9_NothingToUndo x8_InvalidNumber xt_InvalidNumber
    kk_NothingToUndo_InvalidOrder := kit_no np_NothingToUndo_InvalidOrder x9_NothingToUndo x8_InvalidOrder xt_InvalidOrder
    kk_NothingToUndo_InvalidStanding := kit_no np_NothingToUndo_InvalidStanding x9_NothingToUndo x8_InvalidStanding xt_InvalidStanding
    kk_NothingToUndo_InvalidTies := kit_no np_NothingToUndo_InvalidTies x9_NothingToUndo x8_InvalidTies xt_InvalidTies
    kk_NothingToUndo_NothingToUndo := kit_yes
    kk_NothingToUndo_UnknownCall := kit_no np_NothingToUndo_UnknownCall x9_NothingToUndo x8_UnknownCall xt_UnknownCall
    X_UnknownCall := X_UnknownCall, xm_UnknownCall := PySem.W.mg_of X T0.g xm_UnknownCall, xk_UnknownCall := xk_UnknownCall, xs_UnknownCall := xs_UnknownCall, xt_UnknownCall := xt_UnknownCall, xC_UnknownCall := ⟨x1_UnknownCall, x2_UnknownCall, xs_UnknownCall, x3_UnknownCall, x4_UnknownCall, x5_UnknownCall, x6_UnknownCall, x7_UnknownCall⟩, xe_UnknownCall := exm_own xs_UnknownCall x8_UnknownCall xt_UnknownCall x9_UnknownCall, xf_UnknownCall := xf_UnknownCall, xz_UnknownCall := xz_UnknownCall
    xn_UnknownCall := ns_UnknownCall, kb_UnknownCall_ValueError := kit_bi nb_UnknownCall_ValueError, kb_UnknownCall_LookupError := kit_bi nb_UnknownCall_LookupError
    kk_UnknownCall_InvalidNumber := kit_no np_UnknownCall_InvalidNumber x9_UnknownCall x8_InvalidNumber xt_InvalidNumber
    kk_UnknownCall_InvalidOrder := kit_no np_UnknownCall_InvalidOrder x9_UnknownCall x8_InvalidOrder xt_InvalidOrder
    kk_UnknownCall_InvalidStanding := kit_no np_UnknownCall_InvalidStanding x9_UnknownCall x8_InvalidStanding xt_InvalidStanding
    kk_UnknownCall_InvalidTies := kit_no np_UnknownCall_InvalidTies x9_UnknownCall x8_InvalidTies xt_InvalidTies
    kk_UnknownCall_NothingToUndo := kit_no np_UnknownCall_NothingToUndo x9_UnknownCall x8_NothingToUndo xt_NothingToUndo
    kk_UnknownCall_UnknownCall := kit_yes
    a_Room___init__ := _, fd_Room___init__ := _, F_Room___init__ := F_Room___init__, b_Room___init__ := b_Room___init__
    mk_Room := ⟨jm_Room, ja_Room___init__, ji_Room___init__, jk_Room⟩, kr_Room := kr_Room
    a_Room_seats := _, fd_Room_seats := _, F_Room_seats := F_Room_seats, b_Room_seats := b_Room_seats
    q_Room_seats := q_Room_seats, pr_Room_seats := ⟨ja_Room_seats, jg_Room_seats, jt_Room_seats, ⟨_, jr_Room_seats⟩⟩
    a_Room_ties := _, fd_Room_ties := _, F_Room_ties := F_Room_ties, b_Room_ties := b_Room_ties
    q_Room_ties := q_Room_ties, pr_Room_ties := ⟨ja_Room_ties, jg_Room_ties, jt_Room_ties, ⟨_, jr_Room_ties⟩⟩
    a_Room_standing := _, fd_Room_standing := _, F_Room_standing := F_Room_standing, b_Room_standing := b_Room_standing
    q_Room_standing := q_Room_standing, pr_Room_standing := ⟨ja_Room_standing, jg_Room_standing, jt_Room_standing, ⟨_, jr_Room_standing⟩⟩
    a_Room_changes := _, fd_Room_changes := _, F_Room_changes := F_Room_changes, b_Room_changes := b_Room_changes
    q_Room_changes := q_Room_changes, pr_Room_changes := ⟨ja_Room_changes, jg_Room_changes, jt_Room_changes, ⟨_, jr_Room_changes⟩⟩
    a_Room___len__ := _, fd_Room___len__ := _, F_Room___len__ := F_Room___len__, b_Room___len__ := b_Room___len__
    ln_Room := ja_Room___len__, lf_Room := ji_Room___len__
    a_Room_make := _, fd_Room_make := _, F_Room_make := F_Room_make, b_Room_make := b_Room_make
    mt_Room_make := ⟨ja_Room_make, ji_Room_make, k_Room_make⟩
    y_Room_make := y_Room_make
    a_Room_call := _, fd_Room_call := _, F_Room_call := F_Room_call, b_Room_call := b_Room_call
    mt_Room_call := ⟨ja_Room_call, ji_Room_call, k_Room_call⟩
    y_Room_call := y_Room_call
    a_Room_round := _, fd_Room_round := _, F_Room_round := F_Room_round, b_Room_round := b_Room_round
    mt_Room_round := ⟨ja_Room_round, ji_Room_round, k_Room_round⟩
    y_Room_round := y_Room_round
    a_Room_round_back := _, fd_Room_round_back := _, F_Room_round_back := F_Room_round_back, b_Room_round_back := b_Room_round_back
    mt_Room_round_back := ⟨ja_Room_round_back, ji_Room_round_back, k_Room_round_back⟩
    y_Room_round_back := y_Room_round_back
    a_Room_run := _, fd_Room_run := _, F_Room_run := F_Room_run, b_Room_run := b_Room_run
    mt_Room_run := ⟨ja_Room_run, ji_Room_run, k_Room_run⟩
    y_Room_run := y_Room_run
    a_Room_undo := _, fd_Room_undo := _, F_Room_undo := F_Room_undo, b_Room_undo := b_Room_undo
    mt_Room_undo := ⟨ja_Room_undo, ji_Room_undo, k_Room_undo⟩
    a_is_whole := _, fd_is_whole := _, F_is_whole := F_is_whole, m_is_whole := PySem.W.mg_of X T0.g a_is_whole, b_is_whole := b_is_whole
    a_is_within := _, fd_is_within := _, F_is_within := F_is_within, m_is_within := PySem.W.mg_of X T0.g a_is_within, b_is_within := b_is_within
    a_check_seats := _, fd_check_seats := _, F_check_seats := F_check_seats, m_check_seats := PySem.W.mg_of X T0.g a_check_seats, b_check_seats := b_check_seats
    a_check_ties := _, fd_check_ties := _, F_check_ties := F_check_ties, m_check_ties := PySem.W.mg_of X T0.g a_check_ties, b_check_ties := b_check_ties, c_check_ties := cc_check_ties, p_check_ties := pp_check_ties, k_check_ties := code_of_tab a_check_ties l_check_ties t_check_ties, TB_check_ties := hTB (cc_check_ties, pp_check_ties) (by simp), lg_check_ties := lg_check_ties
    a_check_net := _, fd_check_net := _, F_check_net := F_check_net, m_check_net := PySem.W.mg_of X T0.g a_check_net, b_check_net := b_check_net
    a_near_in := _, fd_near_in := _, F_near_in := F_near_in, m_near_in := PySem.W.mg_of X T0.g a_near_in, b_near_in := b_near_in
    a_next_round := _, fd_next_round := _, F_next_round := F_next_round, m_next_round := PySem.W.mg_of X T0.g a_next_round, b_next_round := b_next_round
    a_wrong_place := _, fd_wrong_place := _, F_wrong_place := F_wrong_place, m_wrong_place := PySem.W.mg_of X T0.g a_wrong_place, b_wrong_place := b_wrong_place
    a_check_order_of := _, fd_check_order_of := _, F_check_order_of := F_check_order_of, m_check_order_of := PySem.W.mg_of X T0.g a_check_order_of, b_check_order_of := b_check_order_of
    a_check_standing := _, fd_check_standing := _, F_check_standing := F_check_standing, m_check_standing := PySem.W.mg_of X T0.g a_check_standing, b_check_standing := b_check_standing
    a_called_in := _, fd_called_in := _, F_called_in := F_called_in, m_called_in := PySem.W.mg_of X T0.g a_called_in, b_called_in := b_called_in
    a_Ldraws := _, fd_Ldraws := _, F_Ldraws := F_Ldraws, m_Ldraws := PySem.W.mg_of X T0.g a_Ldraws, b_Ldraws := b_Ldraws
    a_Lnext := _, fd_Lnext := _, F_Lnext := F_Lnext, m_Lnext := PySem.W.mg_of X T0.g a_Lnext, b_Lnext := b_Lnext
    a_Lmixed := _, fd_Lmixed := _, F_Lmixed := F_Lmixed, m_Lmixed := PySem.W.mg_of X T0.g a_Lmixed, b_Lmixed := b_Lmixed
    a_Lnet := _, fd_Lnet := _, F_Lnet := F_Lnet, m_Lnet := PySem.W.mg_of X T0.g a_Lnet, b_Lnet := b_Lnet
    a_Lcaught := _, fd_Lcaught := _, F_Lcaught := F_Lcaught, m_Lcaught := PySem.W.mg_of X T0.g a_Lcaught, b_Lcaught := b_Lcaught
    a_Lbent := _, fd_Lbent := _, F_Lbent := F_Lbent, m_Lbent := PySem.W.mg_of X T0.g a_Lbent, b_Lbent := b_Lbent
    a_Lmade_right := _, fd_Lmade_right := _, F_Lmade_right := F_Lmade_right, m_Lmade_right := PySem.W.mg_of X T0.g a_Lmade_right, b_Lmade_right := b_Lmade_right, c_Lmade_right := cc_Lmade_right, p_Lmade_right := pp_Lmade_right, k_Lmade_right := code_of_tab a_Lmade_right l_Lmade_right t_Lmade_right, TB_Lmade_right := hTB (cc_Lmade_right, pp_Lmade_right) (by simp), lt_Lmade_right := lt_Lmade_right
    a_Lshown := _, fd_Lshown := _, F_Lshown := F_Lshown, m_Lshown := PySem.W.mg_of X T0.g a_Lshown, b_Lshown := b_Lshown
    a_Ldeeds_right := _, fd_Ldeeds_right := _, F_Ldeeds_right := F_Ldeeds_right, m_Ldeeds_right := PySem.W.mg_of X T0.g a_Ldeeds_right, b_Ldeeds_right := b_Ldeeds_right, c_Ldeeds_right := cc_Ldeeds_right, p_Ldeeds_right := pp_Ldeeds_right, k_Ldeeds_right := code_of_tab a_Ldeeds_right l_Ldeeds_right t_Ldeeds_right, TB_Ldeeds_right := hTB (cc_Ldeeds_right, pp_Ldeeds_right) (by simp), lt_Ldeeds_right := lt_Ldeeds_right
    a_Lright := _, fd_Lright := _, F_Lright := F_Lright, m_Lright := PySem.W.mg_of X T0.g a_Lright, b_Lright := b_Lright, c_Lright := cc_Lright, p_Lright := pp_Lright, k_Lright := code_of_tab a_Lright l_Lright t_Lright, TB_Lright := hTB (cc_Lright, pp_Lright) (by simp), lt_Lright := lt_Lright
    a_law := _, fd_law := _, F_law := F_law, m_law := PySem.W.mg_of X T0.g a_law, b_law := b_law
    }
  · simp only [List.mem_cons, List.not_mem_nil, or_false] at hp
    rcases hp with rfl | rfl | rfl | rfl
    all_goals first | (exact PySem.W.tab_of T0 X r_check_ties t_check_ties) | (exact PySem.W.tab_of T0 X r_Lmade_right t_Lmade_right) | (exact PySem.W.tab_of T0 X r_Ldeeds_right t_Ldeeds_right) | (exact PySem.W.tab_of T0 X r_Lright t_Lright)
  · simp only [List.mem_cons, List.not_mem_nil, or_false] at hp
    rcases hp with rfl | rfl | rfl | rfl
    all_goals first | (exact n_check_ties) | (exact n_Lmade_right) | (exact n_Ldeeds_right) | (exact n_Lright)
  · obtain ⟨p, hp, rfl⟩ := List.mem_map.mp (show b ∈ ([(cc_check_ties, pp_check_ties), (cc_Lmade_right, pp_Lmade_right), (cc_Ldeeds_right, pp_Ldeeds_right), (cc_Lright, pp_Lright)] : List (Addr × Addr)).map (·.2) from hb)
    first | exact hT p hp | exact ⟨#[], hT p hp, trip_nil⟩
end Ap



open PySem PySem.W PyProof.Rows in
set_option maxRecDepth 100000 in
set_option maxHeartbeats 0 in
theorem PySem.Challenge.cw_apartcalls_k41_what_rooms_refuse_holds : PySem.Challenge.rw_apartcalls_k41_what_rooms_refuse.Holds := by
  w_on; o_law; k_head; (case hw => w_witness2)
  k_fill
  refine Ap.walk_g (l := PySem.Challenge.rw_apartcalls_k41_what_rooms_refuse) (k := 13) (x := "_law_script") (CX := fun _ => L2.CX0) rfl rfl ⟨rfl, by decide, by decide⟩ (fun w h Y => PySem.W.km_in_of Y) ?F (fun _ _ _ _ _ z => z)
  case F =>
    intro w mg mb fa h loose mean Y KX T0 hmg
    refine' Ap.law_is KX T0 hmg ?z_LookupError ?z_ValueError ?z_all ?z_bool ?z_enumerate ?z_int ?z_isinstance ?z_len ?z_list ?z_max ?z_min ?z_range ?z_repr ?z_set ?z_tuple ?z_zip ?z_FEWEST_SEATS ?z_MOST_SEATS ?jc_Room ?jp_Room ?jd_Room ?jo_Room ?js_Room ?jm_Room ?jk_Room ?ja_Room_many ?ja_Room_pairs ?ja_Room_near ?ja_Room_row ?ja_Room_changed ?ja_Room_past ?ja_Room___init__ ?ji_Room___init__ ?l_Room___init__ ?c_Room___init__ ?k_Room___init__ ?ja_Room_seats ?jg_Room_seats ?jt_Room_seats ?jr_Room_seats ?l_Room_seats ?c_Room_seats ?k_Room_seats ?ja_Room_ties ?jg_Room_ties ?jt_Room_ties ?jr_Room_ties ?l_Room_ties ?c_Room_ties ?k_Room_ties ?ja_Room_standing ?jg_Room_standing ?jt_Room_standing ?jr_Room_standing ?l_Room_standing ?c_Room_standing ?k_Room_standing ?ja_Room_changes ?jg_Room_changes ?jt_Room_changes ?jr_Room_changes ?l_Room_changes ?c_Room_changes ?k_Room_changes ?ja_Room___len__ ?ji_Room___len__ ?l_Room___len__ ?c_Room___len__ ?k_Room___len__ ?ja_Room_make ?ji_Room_make ?l_Room_make ?c_Room_make ?k_Room_make ?ja_Room_call ?ji_Room_call ?l_Room_call ?c_Room_call ?k_Room_call ?ja_Room_round ?ji_Room_round ?l_Room_round ?c_Room_round ?k_Room_round ?ja_Room_round_back ?ji_Room_round_back ?l_Room_round_back ?c_Room_round_back ?k_Room_round_back ?ja_Room_run ?ji_Room_run ?l_Room_run ?c_Room_run ?k_Room_run ?ja_Room_undo ?ji_Room_undo ?l_Room_undo ?c_Room_undo ?k_Room_undo ?gs_super ?gt_super ?go_super ?xm_InvalidNumber ?xk_InvalidNumber ?xs_InvalidNumber ?xt_InvalidNumber ?x1_InvalidNumber ?x2_InvalidNumber ?x3_InvalidNumber ?x4_InvalidNumber ?x5_InvalidNumber ?x6_InvalidNumber ?x7_InvalidNumber ?x8_InvalidNumber ?x9_InvalidNumber ?yk_InvalidNumber ?ye_InvalidNumber ?ya_InvalidNumber ?yn_InvalidNumber ?yi_InvalidNumber ?yt_InvalidNumber ?yl_InvalidNumber ?yc_InvalidNumber ?yd_InvalidNumber ?yv_InvalidNumber ?yf_InvalidNumber ?yq_InvalidNumber ?xm_InvalidOrder ?xk_InvalidOrder ?xs_InvalidOrder ?xt_InvalidOrder ?x1_InvalidOrder ?x2_InvalidOrder ?x3_InvalidOrder ?x4_InvalidOrder ?x5_InvalidOrder ?x6_InvalidOrder ?x7_InvalidOrder ?x8_InvalidOrder ?x9_InvalidOrder ?yk_InvalidOrder ?ye_InvalidOrder ?ya_InvalidOrder ?yn_InvalidOrder ?yi_InvalidOrder ?yt_InvalidOrder ?yl_InvalidOrder ?yc_InvalidOrder ?yd_InvalidOrder ?yv_InvalidOrder ?yf_InvalidOrder ?yq_InvalidOrder ?xm_InvalidStanding ?xk_InvalidStanding ?xs_InvalidStanding ?xt_InvalidStanding ?x1_InvalidStanding ?x2_InvalidStanding ?x3_InvalidStanding ?x4_InvalidStanding ?x5_InvalidStanding ?x6_InvalidStanding ?x7_InvalidStanding ?x8_InvalidStanding ?x9_InvalidStanding ?yk_InvalidStanding ?ye_InvalidStanding ?ya_InvalidStanding ?yn_InvalidStanding ?yi_InvalidStanding ?yt_InvalidStanding ?yl_InvalidStanding ?yc_InvalidStanding ?yd_InvalidStanding ?yv_InvalidStanding ?yf_InvalidStanding ?yq_InvalidStanding ?xm_InvalidTies ?xk_InvalidTies ?xs_InvalidTies ?xt_InvalidTies ?x1_InvalidTies ?x2_InvalidTies ?x3_InvalidTies ?x4_InvalidTies ?x5_InvalidTies ?x6_InvalidTies ?x7_InvalidTies ?x8_InvalidTies ?x9_InvalidTies ?yk_InvalidTies ?ye_InvalidTies ?ya_InvalidTies ?yn_InvalidTies ?yi_InvalidTies ?yt_InvalidTies ?yl_InvalidTies ?yc_InvalidTies ?yd_InvalidTies ?yv_InvalidTies ?yf_InvalidTies ?yq_InvalidTies ?xm_NothingToUndo ?xi_NothingToUndo ?xk_NothingToUndo ?xs_NothingToUndo ?xt_NothingToUndo ?x1_NothingToUndo ?x2_NothingToUndo ?x3_NothingToUndo ?x4_NothingToUndo ?x5_NothingToUndo ?x6_NothingToUndo ?x7_NothingToUndo ?x8_NothingToUndo ?x9_NothingToUndo ?xb_NothingToUndo ?xm_UnknownCall ?xk_UnknownCall ?xs_UnknownCall ?xt_UnknownCall ?x1_UnknownCall ?x2_UnknownCall ?x3_UnknownCall ?x4_UnknownCall ?x5_UnknownCall ?x6_UnknownCall ?x7_UnknownCall ?x8_UnknownCall ?x9_UnknownCall ?yk_UnknownCall ?ye_UnknownCall ?ya_UnknownCall ?yn_UnknownCall ?yi_UnknownCall ?yt_UnknownCall ?yl_UnknownCall ?yc_UnknownCall ?yd_UnknownCall ?yv_UnknownCall ?yf_UnknownCall ?yq_UnknownCall ?ns_InvalidNumber ?nb_InvalidNumber_ValueError ?nb_InvalidNumber_LookupError ?np_InvalidNumber_InvalidOrder ?np_InvalidNumber_InvalidStanding ?np_InvalidNumber_InvalidTies ?np_InvalidNumber_NothingToUndo ?np_InvalidNumber_UnknownCall ?ns_InvalidOrder ?nb_InvalidOrder_ValueError ?nb_InvalidOrder_LookupError ?np_InvalidOrder_InvalidNumber ?np_InvalidOrder_InvalidStanding ?np_InvalidOrder_InvalidTies ?np_InvalidOrder_NothingToUndo ?np_InvalidOrder_UnknownCall ?ns_InvalidStanding ?nb_InvalidStanding_ValueError ?nb_InvalidStanding_LookupError ?np_InvalidStanding_InvalidNumber ?np_InvalidStanding_InvalidOrder ?np_InvalidStanding_InvalidTies ?np_InvalidStanding_NothingToUndo ?np_InvalidStanding_UnknownCall ?ns_InvalidTies ?nb_InvalidTies_ValueError ?nb_InvalidTies_LookupError ?np_InvalidTies_InvalidNumber ?np_InvalidTies_InvalidOrder ?np_InvalidTies_InvalidStanding ?np_InvalidTies_NothingToUndo ?np_InvalidTies_UnknownCall ?ns_NothingToUndo ?nb_NothingToUndo_ValueError ?nb_NothingToUndo_LookupError ?np_NothingToUndo_InvalidNumber ?np_NothingToUndo_InvalidOrder ?np_NothingToUndo_InvalidStanding ?np_NothingToUndo_InvalidTies ?np_NothingToUndo_UnknownCall ?ns_UnknownCall ?nb_UnknownCall_ValueError ?nb_UnknownCall_LookupError ?np_UnknownCall_InvalidNumber ?np_UnknownCall_InvalidOrder ?np_UnknownCall_InvalidStanding ?np_UnknownCall_InvalidTies ?np_UnknownCall_NothingToUndo ?a_is_whole ?l_is_whole ?c_is_whole ?k_is_whole ?a_is_within ?l_is_within ?c_is_within ?k_is_within ?a_check_seats ?l_check_seats ?c_check_seats ?k_check_seats ?a_check_ties ?l_check_ties ?c_check_ties ?k_check_ties ?e_check_ties ?d_check_ties ?q_check_ties ?r_check_ties ?n_check_ties ?lg_check_ties ?a_check_net ?l_check_net ?c_check_net ?k_check_net ?a_near_in ?l_near_in ?c_near_in ?k_near_in ?a_next_round ?l_next_round ?c_next_round ?k_next_round ?a_wrong_place ?l_wrong_place ?c_wrong_place ?k_wrong_place ?a_check_order_of ?l_check_order_of ?c_check_order_of ?k_check_order_of ?a_check_standing ?l_check_standing ?c_check_standing ?k_check_standing ?a_called_in ?l_called_in ?c_called_in ?k_called_in ?a_Ldraws ?l_Ldraws ?c_Ldraws ?k_Ldraws ?a_Lnext ?l_Lnext ?c_Lnext ?k_Lnext ?a_Lmixed ?l_Lmixed ?c_Lmixed ?k_Lmixed ?a_Lnet ?l_Lnet ?c_Lnet ?k_Lnet ?a_Lcaught ?l_Lcaught ?c_Lcaught ?k_Lcaught ?a_Lbent ?l_Lbent ?c_Lbent ?k_Lbent ?a_Lmade_right ?l_Lmade_right ?c_Lmade_right ?k_Lmade_right ?e_Lmade_right ?d_Lmade_right ?q_Lmade_right ?r_Lmade_right ?n_Lmade_right ?lt_Lmade_right ?a_Lshown ?l_Lshown ?c_Lshown ?k_Lshown ?a_Ldeeds_right ?l_Ldeeds_right ?c_Ldeeds_right ?k_Ldeeds_right ?e_Ldeeds_right ?d_Ldeeds_right ?q_Ldeeds_right ?r_Ldeeds_right ?n_Ldeeds_right ?lt_Ldeeds_right ?a_Lright ?l_Lright ?c_Lright ?k_Lright ?e_Lright ?d_Lright ?q_Lright ?r_Lright ?n_Lright ?lt_Lright ?a_law ?l_law ?c_law ?k_law
    (case z_LookupError => k_is)
    (case z_ValueError => k_is)
    (case z_all => k_is)
    (case z_bool => k_is)
    (case z_enumerate => k_is)
    (case z_int => k_is)
    (case z_isinstance => k_is)
    (case z_len => k_is)
    (case z_list => k_is)
    (case z_max => k_is)
    (case z_min => k_is)
    (case z_range => k_is)
    (case z_repr => k_is)
    (case z_set => k_is)
    (case z_tuple => k_is)
    (case z_zip => k_is)
    (case z_FEWEST_SEATS => k_is)
    (case z_MOST_SEATS => k_is)
    (case jc_Room => k_is)
    (case jp_Room => k_is)
    (case jd_Room => k_is)
    (case jo_Room => k_is)
    (case js_Room => k_is)
    (case jm_Room => k_is)
    (case jk_Room => k_is)
    (case ja_Room_many => k_is)
    (case ja_Room_pairs => k_is)
    (case ja_Room_near => k_is)
    (case ja_Room_row => k_is)
    (case ja_Room_changed => k_is)
    (case ja_Room_past => k_is)
    (case ja_Room___init__ => k_is)
    (case ji_Room___init__ => k_is)
    (case l_Room___init__ => k_is)
    (case c_Room___init__ => k_is)
    (case k_Room___init__ => k_is)
    (case ja_Room_seats => k_is)
    (case jg_Room_seats => k_is)
    (case jt_Room_seats => k_is)
    (case jr_Room_seats => k_is)
    (case l_Room_seats => k_is)
    (case c_Room_seats => k_is)
    (case k_Room_seats => k_is)
    (case ja_Room_ties => k_is)
    (case jg_Room_ties => k_is)
    (case jt_Room_ties => k_is)
    (case jr_Room_ties => k_is)
    (case l_Room_ties => k_is)
    (case c_Room_ties => k_is)
    (case k_Room_ties => k_is)
    (case ja_Room_standing => k_is)
    (case jg_Room_standing => k_is)
    (case jt_Room_standing => k_is)
    (case jr_Room_standing => k_is)
    (case l_Room_standing => k_is)
    (case c_Room_standing => k_is)
    (case k_Room_standing => k_is)
    (case ja_Room_changes => k_is)
    (case jg_Room_changes => k_is)
    (case jt_Room_changes => k_is)
    (case jr_Room_changes => k_is)
    (case l_Room_changes => k_is)
    (case c_Room_changes => k_is)
    (case k_Room_changes => k_is)
    (case ja_Room___len__ => k_is)
    (case ji_Room___len__ => k_is)
    (case l_Room___len__ => k_is)
    (case c_Room___len__ => k_is)
    (case k_Room___len__ => k_is)
    (case ja_Room_make => k_is)
    (case ji_Room_make => k_is)
    (case l_Room_make => k_is)
    (case c_Room_make => k_is)
    (case k_Room_make => k_is)
    (case ja_Room_call => k_is)
    (case ji_Room_call => k_is)
    (case l_Room_call => k_is)
    (case c_Room_call => k_is)
    (case k_Room_call => k_is)
    (case ja_Room_round => k_is)
    (case ji_Room_round => k_is)
    (case l_Room_round => k_is)
    (case c_Room_round => k_is)
    (case k_Room_round => k_is)
    (case ja_Room_round_back => k_is)
    (case ji_Room_round_back => k_is)
    (case l_Room_round_back => k_is)
    (case c_Room_round_back => k_is)
    (case k_Room_round_back => k_is)
    (case ja_Room_run => k_is)
    (case ji_Room_run => k_is)
    (case l_Room_run => k_is)
    (case c_Room_run => k_is)
    (case k_Room_run => k_is)
    (case ja_Room_undo => k_is)
    (case ji_Room_undo => k_is)
    (case l_Room_undo => k_is)
    (case c_Room_undo => k_is)
    (case k_Room_undo => k_is)
    (case gs_super => k_is)
    (case gt_super => first | rfl | decide +kernel)
    (case go_super => k_is)
    (case xm_InvalidNumber => k_is)
    (case xk_InvalidNumber => k_is)
    (case xs_InvalidNumber => k_is)
    (case xt_InvalidNumber => k_is)
    (case x1_InvalidNumber => first | k_is | rfl | decide +kernel)
    (case x2_InvalidNumber => first | k_is | rfl | decide +kernel)
    (case x3_InvalidNumber => first | k_is | rfl | decide +kernel)
    (case x4_InvalidNumber => first | k_is | rfl | decide +kernel)
    (case x5_InvalidNumber => first | k_is | rfl | decide +kernel)
    (case x6_InvalidNumber => first | k_is | rfl | decide +kernel)
    (case x7_InvalidNumber => first | k_is | rfl | decide +kernel)
    (case x8_InvalidNumber => first | k_is | rfl | decide +kernel)
    (case x9_InvalidNumber => first | k_is | rfl | decide +kernel)
    (case yk_InvalidNumber => k_is)
    (case ye_InvalidNumber => rfl)
    (case ya_InvalidNumber => k_is)
    (case yn_InvalidNumber => k_is)
    (case yi_InvalidNumber => k_is)
    (case yt_InvalidNumber => k_is)
    (case yl_InvalidNumber => k_is)
    (case yc_InvalidNumber => k_is)
    (case yd_InvalidNumber => k_is)
    (case yv_InvalidNumber => rfl)
    (case yf_InvalidNumber => first | rfl | decide +kernel)
    (case yq_InvalidNumber => k_is)
    (case xm_InvalidOrder => k_is)
    (case xk_InvalidOrder => k_is)
    (case xs_InvalidOrder => k_is)
    (case xt_InvalidOrder => k_is)
    (case x1_InvalidOrder => first | k_is | rfl | decide +kernel)
    (case x2_InvalidOrder => first | k_is | rfl | decide +kernel)
    (case x3_InvalidOrder => first | k_is | rfl | decide +kernel)
    (case x4_InvalidOrder => first | k_is | rfl | decide +kernel)
    (case x5_InvalidOrder => first | k_is | rfl | decide +kernel)
    (case x6_InvalidOrder => first | k_is | rfl | decide +kernel)
    (case x7_InvalidOrder => first | k_is | rfl | decide +kernel)
    (case x8_InvalidOrder => first | k_is | rfl | decide +kernel)
    (case x9_InvalidOrder => first | k_is | rfl | decide +kernel)
    (case yk_InvalidOrder => k_is)
    (case ye_InvalidOrder => rfl)
    (case ya_InvalidOrder => k_is)
    (case yn_InvalidOrder => k_is)
    (case yi_InvalidOrder => k_is)
    (case yt_InvalidOrder => k_is)
    (case yl_InvalidOrder => k_is)
    (case yc_InvalidOrder => k_is)
    (case yd_InvalidOrder => k_is)
    (case yv_InvalidOrder => rfl)
    (case yf_InvalidOrder => first | rfl | decide +kernel)
    (case yq_InvalidOrder => k_is)
    (case xm_InvalidStanding => k_is)
    (case xk_InvalidStanding => k_is)
    (case xs_InvalidStanding => k_is)
    (case xt_InvalidStanding => k_is)
    (case x1_InvalidStanding => first | k_is | rfl | decide +kernel)
    (case x2_InvalidStanding => first | k_is | rfl | decide +kernel)
    (case x3_InvalidStanding => first | k_is | rfl | decide +kernel)
    (case x4_InvalidStanding => first | k_is | rfl | decide +kernel)
    (case x5_InvalidStanding => first | k_is | rfl | decide +kernel)
    (case x6_InvalidStanding => first | k_is | rfl | decide +kernel)
    (case x7_InvalidStanding => first | k_is | rfl | decide +kernel)
    (case x8_InvalidStanding => first | k_is | rfl | decide +kernel)
    (case x9_InvalidStanding => first | k_is | rfl | decide +kernel)
    (case yk_InvalidStanding => k_is)
    (case ye_InvalidStanding => rfl)
    (case ya_InvalidStanding => k_is)
    (case yn_InvalidStanding => k_is)
    (case yi_InvalidStanding => k_is)
    (case yt_InvalidStanding => k_is)
    (case yl_InvalidStanding => k_is)
    (case yc_InvalidStanding => k_is)
    (case yd_InvalidStanding => k_is)
    (case yv_InvalidStanding => rfl)
    (case yf_InvalidStanding => first | rfl | decide +kernel)
    (case yq_InvalidStanding => k_is)
    (case xm_InvalidTies => k_is)
    (case xk_InvalidTies => k_is)
    (case xs_InvalidTies => k_is)
    (case xt_InvalidTies => k_is)
    (case x1_InvalidTies => first | k_is | rfl | decide +kernel)
    (case x2_InvalidTies => first | k_is | rfl | decide +kernel)
    (case x3_InvalidTies => first | k_is | rfl | decide +kernel)
    (case x4_InvalidTies => first | k_is | rfl | decide +kernel)
    (case x5_InvalidTies => first | k_is | rfl | decide +kernel)
    (case x6_InvalidTies => first | k_is | rfl | decide +kernel)
    (case x7_InvalidTies => first | k_is | rfl | decide +kernel)
    (case x8_InvalidTies => first | k_is | rfl | decide +kernel)
    (case x9_InvalidTies => first | k_is | rfl | decide +kernel)
    (case yk_InvalidTies => k_is)
    (case ye_InvalidTies => rfl)
    (case ya_InvalidTies => k_is)
    (case yn_InvalidTies => k_is)
    (case yi_InvalidTies => k_is)
    (case yt_InvalidTies => k_is)
    (case yl_InvalidTies => k_is)
    (case yc_InvalidTies => k_is)
    (case yd_InvalidTies => k_is)
    (case yv_InvalidTies => rfl)
    (case yf_InvalidTies => first | rfl | decide +kernel)
    (case yq_InvalidTies => k_is)
    (case xm_NothingToUndo => k_is)
    (case xi_NothingToUndo => k_exc)
    (case xk_NothingToUndo => k_is)
    (case xs_NothingToUndo => k_is)
    (case xt_NothingToUndo => k_is)
    (case x1_NothingToUndo => first | k_is | rfl | decide +kernel)
    (case x2_NothingToUndo => first | k_is | rfl | decide +kernel)
    (case x3_NothingToUndo => first | k_is | rfl | decide +kernel)
    (case x4_NothingToUndo => first | k_is | rfl | decide +kernel)
    (case x5_NothingToUndo => first | k_is | rfl | decide +kernel)
    (case x6_NothingToUndo => first | k_is | rfl | decide +kernel)
    (case x7_NothingToUndo => first | k_is | rfl | decide +kernel)
    (case x8_NothingToUndo => first | k_is | rfl | decide +kernel)
    (case x9_NothingToUndo => first | k_is | rfl | decide +kernel)
    (case xb_NothingToUndo => k_is)
    (case xm_UnknownCall => k_is)
    (case xk_UnknownCall => k_is)
    (case xs_UnknownCall => k_is)
    (case xt_UnknownCall => k_is)
    (case x1_UnknownCall => first | k_is | rfl | decide +kernel)
    (case x2_UnknownCall => first | k_is | rfl | decide +kernel)
    (case x3_UnknownCall => first | k_is | rfl | decide +kernel)
    (case x4_UnknownCall => first | k_is | rfl | decide +kernel)
    (case x5_UnknownCall => first | k_is | rfl | decide +kernel)
    (case x6_UnknownCall => first | k_is | rfl | decide +kernel)
    (case x7_UnknownCall => first | k_is | rfl | decide +kernel)
    (case x8_UnknownCall => first | k_is | rfl | decide +kernel)
    (case x9_UnknownCall => first | k_is | rfl | decide +kernel)
    (case yk_UnknownCall => k_is)
    (case ye_UnknownCall => rfl)
    (case ya_UnknownCall => k_is)
    (case yn_UnknownCall => k_is)
    (case yi_UnknownCall => k_is)
    (case yt_UnknownCall => k_is)
    (case yl_UnknownCall => k_is)
    (case yc_UnknownCall => k_is)
    (case yd_UnknownCall => k_is)
    (case yv_UnknownCall => rfl)
    (case yf_UnknownCall => first | rfl | decide +kernel)
    (case yq_UnknownCall => k_is)
    (case ns_InvalidNumber => k_is)
    (case nb_InvalidNumber_ValueError => k_is)
    (case nb_InvalidNumber_LookupError => k_is)
    (case np_InvalidNumber_InvalidOrder => k_is)
    (case np_InvalidNumber_InvalidStanding => k_is)
    (case np_InvalidNumber_InvalidTies => k_is)
    (case np_InvalidNumber_NothingToUndo => k_is)
    (case np_InvalidNumber_UnknownCall => k_is)
    (case ns_InvalidOrder => k_is)
    (case nb_InvalidOrder_ValueError => k_is)
    (case nb_InvalidOrder_LookupError => k_is)
    (case np_InvalidOrder_InvalidNumber => k_is)
    (case np_InvalidOrder_InvalidStanding => k_is)
    (case np_InvalidOrder_InvalidTies => k_is)
    (case np_InvalidOrder_NothingToUndo => k_is)
    (case np_InvalidOrder_UnknownCall => k_is)
    (case ns_InvalidStanding => k_is)
    (case nb_InvalidStanding_ValueError => k_is)
    (case nb_InvalidStanding_LookupError => k_is)
    (case np_InvalidStanding_InvalidNumber => k_is)
    (case np_InvalidStanding_InvalidOrder => k_is)
    (case np_InvalidStanding_InvalidTies => k_is)
    (case np_InvalidStanding_NothingToUndo => k_is)
    (case np_InvalidStanding_UnknownCall => k_is)
    (case ns_InvalidTies => k_is)
    (case nb_InvalidTies_ValueError => k_is)
    (case nb_InvalidTies_LookupError => k_is)
    (case np_InvalidTies_InvalidNumber => k_is)
    (case np_InvalidTies_InvalidOrder => k_is)
    (case np_InvalidTies_InvalidStanding => k_is)
    (case np_InvalidTies_NothingToUndo => k_is)
    (case np_InvalidTies_UnknownCall => k_is)
    (case ns_NothingToUndo => k_is)
    (case nb_NothingToUndo_ValueError => k_is)
    (case nb_NothingToUndo_LookupError => k_is)
    (case np_NothingToUndo_InvalidNumber => k_is)
    (case np_NothingToUndo_InvalidOrder => k_is)
    (case np_NothingToUndo_InvalidStanding => k_is)
    (case np_NothingToUndo_InvalidTies => k_is)
    (case np_NothingToUndo_UnknownCall => k_is)
    (case ns_UnknownCall => k_is)
    (case nb_UnknownCall_ValueError => k_is)
    (case nb_UnknownCall_LookupError => k_is)
    (case np_UnknownCall_InvalidNumber => k_is)
    (case np_UnknownCall_InvalidOrder => k_is)
    (case np_UnknownCall_InvalidStanding => k_is)
    (case np_UnknownCall_InvalidTies => k_is)
    (case np_UnknownCall_NothingToUndo => k_is)
    (case a_is_whole => k_is)
    (case l_is_whole => k_is)
    (case c_is_whole => k_is)
    (case k_is_whole => k_is)
    (case a_is_within => k_is)
    (case l_is_within => k_is)
    (case c_is_within => k_is)
    (case k_is_within => k_is)
    (case a_check_seats => k_is)
    (case l_check_seats => k_is)
    (case c_check_seats => k_is)
    (case k_check_seats => k_is)
    (case a_check_ties => k_is)
    (case l_check_ties => k_is)
    (case c_check_ties => k_is)
    (case k_check_ties => k_is)
    (case e_check_ties => rfl)
    (case d_check_ties => k_is)
    (case q_check_ties => rfl)
    (case n_check_ties => rfl)
    (case r_check_ties => rfl)
    (case lg_check_ties => decide +kernel)
    (case a_check_net => k_is)
    (case l_check_net => k_is)
    (case c_check_net => k_is)
    (case k_check_net => k_is)
    (case a_near_in => k_is)
    (case l_near_in => k_is)
    (case c_near_in => k_is)
    (case k_near_in => k_is)
    (case a_next_round => k_is)
    (case l_next_round => k_is)
    (case c_next_round => k_is)
    (case k_next_round => k_is)
    (case a_wrong_place => k_is)
    (case l_wrong_place => k_is)
    (case c_wrong_place => k_is)
    (case k_wrong_place => k_is)
    (case a_check_order_of => k_is)
    (case l_check_order_of => k_is)
    (case c_check_order_of => k_is)
    (case k_check_order_of => k_is)
    (case a_check_standing => k_is)
    (case l_check_standing => k_is)
    (case c_check_standing => k_is)
    (case k_check_standing => k_is)
    (case a_called_in => k_is)
    (case l_called_in => k_is)
    (case c_called_in => k_is)
    (case k_called_in => k_is)
    (case a_Ldraws => k_is)
    (case l_Ldraws => k_is)
    (case c_Ldraws => k_is)
    (case k_Ldraws => k_is)
    (case a_Lnext => k_is)
    (case l_Lnext => k_is)
    (case c_Lnext => k_is)
    (case k_Lnext => k_is)
    (case a_Lmixed => k_is)
    (case l_Lmixed => k_is)
    (case c_Lmixed => k_is)
    (case k_Lmixed => k_is)
    (case a_Lnet => k_is)
    (case l_Lnet => k_is)
    (case c_Lnet => k_is)
    (case k_Lnet => k_is)
    (case a_Lcaught => k_is)
    (case l_Lcaught => k_is)
    (case c_Lcaught => k_is)
    (case k_Lcaught => k_is)
    (case a_Lbent => k_is)
    (case l_Lbent => k_is)
    (case c_Lbent => k_is)
    (case k_Lbent => k_is)
    (case a_Lmade_right => k_is)
    (case l_Lmade_right => k_is)
    (case c_Lmade_right => k_is)
    (case k_Lmade_right => k_is)
    (case e_Lmade_right => rfl)
    (case d_Lmade_right => k_is)
    (case q_Lmade_right => rfl)
    (case n_Lmade_right => rfl)
    (case r_Lmade_right => rfl)
    (case lt_Lmade_right => decide +kernel)
    (case a_Lshown => k_is)
    (case l_Lshown => k_is)
    (case c_Lshown => k_is)
    (case k_Lshown => k_is)
    (case a_Ldeeds_right => k_is)
    (case l_Ldeeds_right => k_is)
    (case c_Ldeeds_right => k_is)
    (case k_Ldeeds_right => k_is)
    (case e_Ldeeds_right => rfl)
    (case d_Ldeeds_right => k_is)
    (case q_Ldeeds_right => rfl)
    (case n_Ldeeds_right => rfl)
    (case r_Ldeeds_right => rfl)
    (case lt_Ldeeds_right => decide +kernel)
    (case a_Lright => k_is)
    (case l_Lright => k_is)
    (case c_Lright => k_is)
    (case k_Lright => k_is)
    (case e_Lright => rfl)
    (case d_Lright => k_is)
    (case q_Lright => rfl)
    (case n_Lright => rfl)
    (case r_Lright => rfl)
    (case lt_Lright => decide +kernel)
    (case a_law => k_is)
    (case l_law => k_is)
    (case c_law => k_is)
    (case k_law => k_is)

