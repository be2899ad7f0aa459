import PyProof.Rows.All
import Wide.All
import OpenK.AllK
import Wide.FinOn
import HandS.ForMost
import HandS.ForExc
import HandS.Conv
import HandS.Style
import HandS.NoneIn
import HandS.SortInts
import HandS.EndTab
import HandS.EndBits
import HandS.AnyAll
import HandS.TupSets
import HandS.SetKeys
import HandS.DictComp
import HandS.Evl
import HandS.IsInst
import HandS.Walk
import HandS.WordsDict
import PySem.Challenge.RW_apartcalls_k01_nets
set_option Elab.async false
set_option maxHeartbeats 1000000
set_option linter.all false
set_option maxRecDepth 100000
/-! K0: a relation between heaps, steps through readings, looks. -/
namespace Ap
open PySem L2

/-! ### heaps -/
/-- H' is H, but for the things at S (they may have changed) and the tables (they may have grown) -/
structure Kp (S : List Addr) (H H' : Hp) : Prop where
  keep : ∀ b o, b ∉ S → H b = some o → (∀ ps, o ≠ .tbl ps) → H' b = some o
  tbl : ∀ b ps, H b = some (.tbl ps) → TriplesOk ps.toList → ∃ ps', H' b = some (.tbl ps') ∧ TriplesOk ps'.toList
  there : ∀ b o, H b = some o → ∃ o', H' b = some o'
theorem Kp.refl (S : List Addr) (H : Hp) : Kp S H H := ⟨fun _ _ _ h _ => h, fun _ ps h t => ⟨ps, h, t⟩, fun _ o h => ⟨o, h⟩⟩
theorem Kp.mono {S S' : List Addr} {H H' : Hp} (k : Kp S H H') (h : ∀ b ∈ S, b ∈ S') : Kp S' H H' := ⟨fun b o n => k.keep b o (fun z => n (h b z)), k.tbl, k.there⟩
theorem Kp.any {S : List Addr} {H H' : Hp} (k : Kp [] H H') : Kp S H H' := k.mono (fun _ z => nomatch z)
theorem Kp.trans {S : List Addr} {H H1 H2 : Hp} (a : Kp S H H1) (b : Kp S H1 H2) : Kp S H H2 :=
  ⟨fun c o n h t => b.keep c o n (a.keep c o n h t) t, fun c ps h t => by
    obtain ⟨ps', h', t'⟩ := a.tbl c ps h t
    exact b.tbl c ps' h' t', fun c o h => by
    obtain ⟨o', h'⟩ := a.there c o h
    exact b.there c o' h'⟩
theorem Kp.new {S : List Addr} {H : Hp} {p : Addr} {o : HO} (h : H p = none) : Kp S H (upd H p o) :=
  ⟨fun b u _ e _ => by rw [upd_ne (ne_of_none e h)]; exact e, fun b ps e t => ⟨ps, by rw [upd_ne (ne_of_none e h)]; exact e, t⟩, fun b u e => ⟨u, by rw [upd_ne (ne_of_none e h)]; exact e⟩⟩
/-- a thing that is not known to H is laid or changed -/
theorem Kp.put {S : List Addr} {H H' : Hp} {p : Addr} {o : HO} (k : Kp S H H') (h : H p = none) : Kp S H (upd H' p o) := by
  refine ⟨fun b u n e t => ?_, fun b ps e t => ?_, fun b u e => ?_⟩
  · rw [upd_ne (ne_of_none e h)]; exact k.keep b u n e t
  · rw [upd_ne (ne_of_none e h)]; exact k.tbl b ps e t
  · rw [upd_ne (ne_of_none e h)]; exact k.there b u e
/-- a thing at S is changed -/
theorem Kp.mut {S : List Addr} {H H' : Hp} {p : Addr} {o u : HO} (k : Kp S H H') (h : p ∈ S) (hp : H p = some u) (nt : ∀ ps, u ≠ .tbl ps) : Kp S H (upd H' p o) := by
  refine ⟨fun b v n e t => ?_, fun b ps e t => ?_, fun b v e => ?_⟩
  · rw [upd_ne (show b ≠ p from fun z => n (by rw [z]; exact h))]; exact k.keep b v n e t
  · rw [upd_ne (show b ≠ p from fun z => by rw [z, hp] at e; exact nt ps (Option.some.inj e))]; exact k.tbl b ps e t
  · by_cases z : b = p
    · exact ⟨o, by rw [z]; exact upd_same⟩
    · rw [upd_ne z]; exact k.there b v e
theorem Kp.free {S : List Addr} {H H' : Hp} (k : Kp S H H') {p : Addr} (h : H' p = none) : H p = none := by
  cases e : H p with
  | none => rfl
  | some o =>
    obtain ⟨o', h'⟩ := k.there p o e
    rw [h] at h'
    cases h'
theorem Kp.lst {S : List Addr} {H H' : Hp} (k : Kp S H H') {p : Addr} {xs : List V} (n : p ∉ S) (h : H p = some (.lst xs)) : H' p = some (.lst xs) := k.keep p _ n h (fun _ z => nomatch z)
theorem Kp.tup {S : List Addr} {H H' : Hp} (k : Kp S H H') {p : Addr} {xs : List V} (n : p ∉ S) (h : H p = some (.tup xs)) : H' p = some (.tup xs) := k.keep p _ n h (fun _ z => nomatch z)
theorem Kp.frz {S : List Addr} {H H' : Hp} (k : Kp S H H') {p : Addr} {o : Obj} {u : HO} (n : p ∉ S) (h : H p = some (.frz o u)) : H' p = some (.frz o u) := k.keep p _ n h (fun _ z => nomatch z)
theorem Kp.rdl {S : List Addr} {K : PySem.W.Frag} {H H' : Hp} (k : Kp S H H') {p : Addr} {xs : List V} (n : p ∉ S) (h : SqL K H p xs) : SqL K H' p xs := by
  rcases h with (h | ⟨o, h⟩) | h
  · exact .inl (.inl (k.lst n h))
  · exact .inl (.inr ⟨o, k.frz n h⟩)
  · exact .inr h
/-- the tables that are looked at -/
def Tabs (T : List Addr) (H : Hp) : Prop := ∀ b ∈ T, ∃ ps, H b = some (.tbl ps) ∧ TriplesOk ps.toList
theorem Kp.tabs {S T : List Addr} {H H' : Hp} (k : Kp S H H') (h : Tabs T H) : Tabs T H' := fun b hb => by
  obtain ⟨ps, e, t⟩ := h b hb
  exact k.tbl b ps e t

/-! ### data, with what is true of its places -/
mutual
inductive Da (P : Addr → Prop) (H : Hp) : V → PyData → Prop
  | non : Da P H .non .none
  | bl (b : Bool) : Da P H (.bl b) (.bool b)
  | int (i : Int) : Da P H (.int i) (.int i)
  | str (x : Str) : Da P H (.str x) (.str x)
  | lst {a : Addr} {xs : List V} {ds : List PyData} : P a → H a = some (.lst xs) → DaAll P H xs ds → Da P H (.ref a) (.list ds)
  | tup {a : Addr} {xs : List V} {ds : List PyData} : P a → H a = some (.tup xs) → DaAll P H xs ds → Da P H (.ref a) (.tuple ds)
inductive DaAll (P : Addr → Prop) (H : Hp) : List V → List PyData → Prop
  | nil : DaAll P H [] []
  | cons {v : V} {vs : List V} {d : PyData} {ds : List PyData} : Da P H v d → DaAll P H vs ds → DaAll P H (v :: vs) (d :: ds)
end
mutual
theorem Da.dp {P : Addr → Prop} {K : PySem.W.Frag} {H : Hp} : ∀ {d : PyData} {v : V}, Da P H v d → Dp K H v d
  | _, _, .non => .non
  | _, _, .bl b => .bl b
  | _, _, .int i => .int i
  | _, _, .str x => .str x
  | _, _, .lst _ h a => .lst (SqL.of h) (DaAll.dp a)
  | _, _, .tup _ h a => .tup (SqT.of h) (DaAll.dp a)
theorem DaAll.dp {P : Addr → Prop} {K : PySem.W.Frag} {H : Hp} : ∀ {ds : List PyData} {vs : List V}, DaAll P H vs ds → DpAll K H vs ds
  | _, _, .nil => .nil
  | _, _, .cons h t => .cons (Da.dp h) (DaAll.dp t)
end
mutual
/-- kept, and what is true of the places made wider -/
theorem Da.keep {P P' : Addr → Prop} {S : List Addr} {H H' : Hp} (k : Kp S H H') (n : ∀ b, P b → b ∉ S) (w : ∀ b, P b → P' b) : ∀ {d : PyData} {v : V}, Da P H v d → Da P' H' v d
  | _, _, .non => .non
  | _, _, .bl b => .bl b
  | _, _, .int i => .int i
  | _, _, .str x => .str x
  | _, _, .lst p h a => .lst (w _ p) (k.lst (n _ p) h) (DaAll.keep k n w a)
  | _, _, .tup p h a => .tup (w _ p) (k.tup (n _ p) h) (DaAll.keep k n w a)
theorem DaAll.keep {P P' : Addr → Prop} {S : List Addr} {H H' : Hp} (k : Kp S H H') (n : ∀ b, P b → b ∉ S) (w : ∀ b, P b → P' b) : ∀ {ds : List PyData} {vs : List V}, DaAll P H vs ds → DaAll P' H' vs ds
  | _, _, .nil => .nil
  | _, _, .cons h t => .cons (Da.keep k n w h) (DaAll.keep k n w t)
end
theorem DaAll.append {P : Addr → Prop} {H : Hp} : ∀ {xs ys : List V} {ds es : List PyData}, DaAll P H xs ds → DaAll P H ys es → DaAll P H (xs ++ ys) (ds ++ es)
  | _, _, _, _, .nil, b => b
  | _, _, _, _, .cons h t, b => .cons h (DaAll.append t b)
theorem DaAll.length {P : Addr → Prop} {H : Hp} : ∀ {xs : List V} {ds : List PyData}, DaAll P H xs ds → xs.length = ds.length
  | _, _, .nil => rfl
  | _, _, .cons _ t => by simp [DaAll.length t]
theorem DaAll.get {P : Addr → Prop} {H : Hp} : ∀ {xs : List V} {ds : List PyData} {i : Nat} {d : PyData}, DaAll P H xs ds → ds[i]? = some d → ∃ v, xs[i]? = some v ∧ Da P H v d
  | _, _, 0, d, .cons h _, e => ⟨_, rfl, by cases e; exact h⟩
  | _, _, i + 1, d, .cons _ t, e => DaAll.get (i := i) t e
theorem DaAll.getV {P : Addr → Prop} {H : Hp} : ∀ {xs : List V} {ds : List PyData} {i : Nat} {v : V}, DaAll P H xs ds → xs[i]? = some v → ∃ d, ds[i]? = some d ∧ Da P H v d
  | _, _, 0, v, .cons h _, e => ⟨_, rfl, by cases e; exact h⟩
  | _, _, i + 1, v, .cons _ t, e => DaAll.getV (i := i) t e
theorem DaAll.ints {P : Addr → Prop} {H : Hp} : ∀ (ns : List Int), DaAll P H (ns.map V.int) (ns.map PyData.int)
  | [] => .nil
  | n :: r => .cons (.int n) (DaAll.ints r)
theorem DaAll.ints_inv {P : Addr → Prop} {H : Hp} : ∀ {ns : List Int} {xs : List V}, DaAll P H xs (ns.map PyData.int) → xs = ns.map V.int
  | [], _, .nil => rfl
  | n :: r, _, .cons (.int _) t => by rw [DaAll.ints_inv (ns := r) t]; rfl
theorem Da.ints {P : Addr → Prop} {H : Hp} {p : Addr} {ns : List Int} (h : P p) (e : H p = some (.lst (ns.map V.int))) : Da P H (.ref p) (.list (ns.map PyData.int)) := .lst h e (DaAll.ints ns)
theorem Da.list_inv {P : Addr → Prop} {H : Hp} {v : V} {ds : List PyData} (h : Da P H v (.list ds)) : ∃ p xs, v = .ref p ∧ P p ∧ H p = some (.lst xs) ∧ DaAll P H xs ds := by
  cases h with
  | lst a b c => exact ⟨_, _, rfl, a, b, c⟩
theorem Da.ints_inv {P : Addr → Prop} {H : Hp} {v : V} {ns : List Int} (h : Da P H v (.list (ns.map PyData.int))) : ∃ p, v = .ref p ∧ P p ∧ H p = some (.lst (ns.map V.int)) := by
  obtain ⟨p, xs, rfl, a, b, c⟩ := h.list_inv
  rw [DaAll.ints_inv c] at b
  exact ⟨p, rfl, a, b⟩

theorem triv_sz {n : Nat} (h : n ≤ 1000000) : n ≤ sizeLine := Nat.le_trans h (by decide)
theorem triv_szl {n : Nat} (h : n ≤ 1000000) : n < sizeLine := Nat.lt_of_le_of_lt h (by decide)
theorem atI_of {α : Type} {xs : List α} {i : Int} {n : Nat} {v : α} (e : i = n) (h : xs[n]? = some v) : atI xs i = some v := by
  rw [e]
  exact atI_nat h
theorem ixN_of {n k : Nat} {i : Int} (e : i = (k : Int)) (h : k < n) : ixN n i = some k := by
  subst e
  unfold ixN
  rw [if_pos (by omega), if_pos (by omega)]
  rfl
/-! ### steps through readings -/
/-- one step: of the goal G the goal N is left -/
class St (G : Prop) (N : outParam Prop) : Prop where
  go : N → G
section
variable {X : Cx} {K : PySem.W.Frag} {σ : L2.St} {H H1 : Hp} {Q : VK} {v w' x y z : V} {t u : TS} {te tf : TE} {tt tu : TT} {g : TG} {ta : TA} {D : Ends} {i j : Int}
theorem g_seq (h : t ⟨u D, D.rt, D.bk, D.ct⟩ σ H) : tSeq t u D σ H := h
instance i_seq : St (tSeq t u D σ H) (t ⟨u D, D.rt, D.bk, D.ct⟩ σ H) := ⟨g_seq⟩
def kG (g : TG) (R : L2.St → Hp → Prop) (σ : L2.St) : VK := fun x H1 => g x σ H1 R
theorem g_kG {R : L2.St → Hp → Prop} (h : g v σ H R) : kG g R σ v H := h
instance i_kG {R : L2.St → Hp → Prop} : St (kG g R σ v H) (g v σ H R) := ⟨g_kG⟩
theorem g_asg (h : te σ H (kG g D.nx σ)) : tAsg te g D σ H := h
instance i_asg : St (tAsg te g D σ H) (te σ H (kG g D.nx σ)) := ⟨g_asg⟩
def kDr (R : L2.St → Hp → Prop) (σ : L2.St) : VK := fun _ H1 => R σ H1
theorem g_kDr {R : L2.St → Hp → Prop} (h : R σ H) : kDr R σ v H := h
instance i_kDr {R : L2.St → Hp → Prop} : St (kDr R σ v H) (R σ H) := ⟨g_kDr⟩
theorem g_drop (h : te σ H (kDr D.nx σ)) : tDrop te D σ H := h
instance i_drop : St (tDrop te D σ H) (te σ H (kDr D.nx σ)) := ⟨g_drop⟩
theorem g_ret (h : te σ H D.rt) : tRet te D σ H := h
instance i_ret : St (tRet te D σ H) (te σ H D.rt) := ⟨g_ret⟩
theorem g_retN (h : D.rt .non H) : tRetN D σ H := h
instance i_retN : St (tRetN D σ H) (D.rt .non H) := ⟨g_retN⟩
def kIf (A B : Hp → Prop) : Bool → Hp → Prop := fun b H1 => if b = true then A H1 else B H1
theorem g_if (h : tt σ H (kIf (t D σ) (u D σ))) : tIfS tt t u D σ H := h
instance i_if : St (tIfS tt t u D σ H) (tt σ H (kIf (t D σ) (u D σ))) := ⟨g_if⟩
section
variable {A B : Hp → Prop} {c : Prop} [Decidable c] {b : Bool}
theorem g_kT (h : A H) : kIf A B true H := h
instance i_kT : St (kIf A B true H) (A H) := ⟨g_kT⟩
theorem g_kF (h : B H) : kIf A B false H := by
  show if false = true then A H else B H
  rw [if_neg Bool.false_ne_true]; exact h
instance i_kF : St (kIf A B false H) (B H) := ⟨g_kF⟩
theorem g_kB (h1 : b = true → A H) (h2 : b = false → B H) : kIf A B b H := by
  cases b with
  | true => exact g_kT (h1 rfl)
  | false => exact g_kF (h2 rfl)
theorem g_kD (h1 : c → A H) (h2 : ¬ c → B H) : kIf A B (decide c) H := g_kB (fun e => h1 (of_decide_eq_true e)) (fun e => h2 (of_decide_eq_false e))
theorem g_kN (h1 : ¬ c → A H) (h2 : c → B H) : kIf A B (!decide c) H := g_kB (fun e => h1 (fun z => by rw [decide_eq_true z] at e; cases e)) (fun e => h2 (by
  by_cases z : c
  · exact z
  · rw [decide_eq_false z] at e; cases e))
theorem g_kY (e : b = true) (h : A H) : kIf A B b H := by subst e; exact g_kT h
theorem g_kX (e : b = false) (h : B H) : kIf A B b H := by subst e; exact g_kF h
theorem g_kDY (e : c) (h : A H) : kIf A B (decide c) H := g_kY (decide_eq_true e) h
theorem g_kDX (e : ¬ c) (h : B H) : kIf A B (decide c) H := g_kX (decide_eq_false e) h
theorem g_kNY (e : ¬ c) (h : A H) : kIf A B (!decide c) H := g_kY (by rw [decide_eq_false e]; rfl) h
theorem g_kNX (e : c) (h : B H) : kIf A B (!decide c) H := g_kX (by rw [decide_eq_true e]; rfl) h
end
theorem g_next (h : D.nx σ H) : tNext D σ H := h
instance i_next : St (tNext D σ H) (D.nx σ H) := ⟨g_next⟩
theorem g_brk (h : D.bk σ H) : tBreak D σ H := h
instance i_brk : St (tBreak D σ H) (D.bk σ H) := ⟨g_brk⟩
section
variable {a c d : L2.St → Hp → Prop} {b : VK}
theorem g_nx (h : a σ H) : Ends.nx (Ends.mk a b c d) σ H := h
instance i_nx : St (Ends.nx (Ends.mk a b c d) σ H) (a σ H) := ⟨g_nx⟩
theorem g_rt (h : b v H) : Ends.rt (Ends.mk a b c d) v H := h
instance i_rt : St (Ends.rt (Ends.mk a b c d) v H) (b v H) := ⟨g_rt⟩
theorem g_bk (h : c σ H) : Ends.bk (Ends.mk a b c d) σ H := h
instance i_bk : St (Ends.bk (Ends.mk a b c d) σ H) (c σ H) := ⟨g_bk⟩
theorem g_ct (h : d σ H) : Ends.ct (Ends.mk a b c d) σ H := h
instance i_ct : St (Ends.ct (Ends.mk a b c d) σ H) (d σ H) := ⟨g_ct⟩
end
theorem g_c (h : Q v H) : tC v σ H Q := h
instance i_c : St (tC v σ H Q) (Q v H) := ⟨g_c⟩
def kO1 (r : R2) (tf : TE) (σ : L2.St) (Q : VK) : VK := fun x H1 => tf σ H1 fun y H2 => r x y H2 Q
def kO2 (r : R2) (x : V) (Q : VK) : VK := fun y H2 => r x y H2 Q
theorem g_op {r : R2} (h : te σ H (kO1 r tf σ Q)) : tOp r te tf σ H Q := h
instance i_op {r : R2} : St (tOp r te tf σ H Q) (te σ H (kO1 r tf σ Q)) := ⟨g_op⟩
theorem g_kO1 {r : R2} (h : tf σ H (kO2 r x Q)) : kO1 r tf σ Q x H := h
instance i_kO1 {r : R2} : St (kO1 r tf σ Q x H) (tf σ H (kO2 r x Q)) := ⟨g_kO1⟩
theorem g_kO2 {r : R2} (h : r x y H Q) : kO2 r x Q y H := h
instance i_kO2 {r : R2} : St (kO2 r x Q y H) (r x y H Q) := ⟨g_kO2⟩
def kU (r : V → Hp → VK → Prop) (Q : VK) : VK := fun x H1 => r x H1 Q
theorem g_un {r : V → Hp → VK → Prop} (h : te σ H (kU r Q)) : tUn r te σ H Q := h
instance i_un {r : V → Hp → VK → Prop} : St (tUn r te σ H Q) (te σ H (kU r Q)) := ⟨g_un⟩
theorem g_kU {r : V → Hp → VK → Prop} (h : r x H Q) : kU r Q x H := h
instance i_kU {r : V → Hp → VK → Prop} : St (kU r Q x H) (r x H Q) := ⟨g_kU⟩
theorem g_rI0 {f : Int → Int → V} (h : Q (f i j) H) : rI0 f (.int i) (.int j) H Q := ⟨i, j, rfl, rfl, h⟩
instance i_rI0 {f : Int → Int → V} : St (rI0 f (.int i) (.int j) H Q) (Q (f i j) H) := ⟨g_rI0⟩
theorem g_rI {C : Int → Int → Prop} {f : Int → Int → V} (c : C i j) (h : Q (f i j) H) : rI C f (.int i) (.int j) H Q := ⟨i, j, rfl, rfl, c, h⟩
theorem g_rU {f : Int → V} (h : Q (f i) H) : rU f (.int i) H Q := ⟨i, rfl, h⟩
instance i_rU {f : Int → V} : St (rU f (.int i) H Q) (Q (f i) H) := ⟨g_rU⟩
abbrev LK := List V → Hp → Prop
theorem g_nil {R : LK} (h : R [] H) : tNil σ H R := h
instance i_nil {R : LK} : St (tNil σ H R) (R [] H) := ⟨g_nil⟩
def kC1 (ta : TA) (σ : L2.St) (R : LK) : VK := fun x H1 => ta σ H1 fun xs H2 => R (x :: xs) H2
def kC2 (x : V) (R : LK) : LK := fun xs H2 => R (x :: xs) H2
theorem g_cons {R : LK} (h : te σ H (kC1 ta σ R)) : tCons te ta σ H R := h
instance i_cons {R : LK} : St (tCons te ta σ H R) (te σ H (kC1 ta σ R)) := ⟨g_cons⟩
theorem g_kC1 {R : LK} (h : ta σ H (kC2 x R)) : kC1 ta σ R x H := h
instance i_kC1 {R : LK} : St (kC1 ta σ R x H) (ta σ H (kC2 x R)) := ⟨g_kC1⟩
theorem g_kC2 {R : LK} {xs : List V} (h : R (x :: xs) H) : kC2 x R xs H := h
instance i_kC2 {R : LK} {xs : List V} : St (kC2 x R xs H) (R (x :: xs) H) := ⟨g_kC2⟩
def kL (Q : VK) : LK := fun xs H1 => xs.length ≤ sizeLine ∧ ∀ p, H1 p = none → Q (.ref p) (upd H1 p (.lst xs))
def kT (Q : VK) : LK := fun xs H1 => xs.length ≤ sizeLine ∧ ∀ p, H1 p = none → Q (.ref p) (upd H1 p (.tup xs))
theorem g_lst (h : ta σ H (kL Q)) : tLst ta σ H Q := h
instance i_lst : St (tLst ta σ H Q) (ta σ H (kL Q)) := ⟨g_lst⟩
theorem g_tup (h : ta σ H (kT Q)) : tTup ta σ H Q := h
instance i_tup : St (tTup ta σ H Q) (ta σ H (kT Q)) := ⟨g_tup⟩
theorem g_kL {xs : List V} (s : Nat.ble xs.length 1000000 = true) (h : ∀ p, H p = none → Q (.ref p) (upd H p (.lst xs))) : kL Q xs H := ⟨Nat.le_trans (Nat.le_of_ble_eq_true s) (by decide), h⟩
theorem g_kTu {xs : List V} (s : Nat.ble xs.length 1000000 = true) (h : ∀ p, H p = none → Q (.ref p) (upd H p (.tup xs))) : kT Q xs H := ⟨Nat.le_trans (Nat.le_of_ble_eq_true s) (by decide), h⟩
def kR (r : List V → Hp → VK → Prop) (Q : VK) : LK := fun vs H1 => r vs H1 Q
theorem g_cb {r : List V → Hp → VK → Prop} (h : ta σ H (kR r Q)) : tCB r ta σ H Q := h
instance i_cb {r : List V → Hp → VK → Prop} : St (tCB r ta σ H Q) (ta σ H (kR r Q)) := ⟨g_cb⟩
theorem g_kR {r : List V → Hp → VK → Prop} {vs : List V} (h : r vs H Q) : kR r Q vs H := h
instance i_kR {r : List V → Hp → VK → Prop} {vs : List V} : St (kR r Q vs H) (r vs H Q) := ⟨g_kR⟩
def kS (sp : Sp) (dvs : List V) (E : XK) (Q : VK) : LK := fun vs H1 => sp (vs ++ dvs) H1 Q E
theorem g_call {sp : Sp} {dvs : List V} {E : XK} (h : ta σ H (kS sp dvs E Q)) : tCall sp dvs E ta σ H Q := h
instance i_call {sp : Sp} {dvs : List V} {E : XK} : St (tCall sp dvs E ta σ H Q) (ta σ H (kS sp dvs E Q)) := ⟨g_call⟩
/-- at a call: the promise's own premises -/
theorem g_kS {sp : Sp} {dvs vs : List V} {E : XK} (h : sp (vs ++ dvs) H Q E) : kS sp dvs E Q vs H := h
abbrev BK := Bool → Hp → Prop
def kB (R : BK) : VK := fun x H' => ∃ k, x = .bl k ∧ R k H'
theorem g_test {R : BK} (h : te σ H (kB R)) : tTest te σ H R := h
instance i_test {R : BK} : St (tTest te σ H R) (te σ H (kB R)) := ⟨g_test⟩
theorem g_tB {R : BK} (h : te σ H (kB R)) : tB te σ H R := h
instance i_tB {R : BK} : St (tB te σ H R) (te σ H (kB R)) := ⟨g_tB⟩
theorem g_kBl {b : Bool} {R : BK} (h : R b H) : kB R (.bl b) H := ⟨b, rfl, h⟩
instance i_kBl {b : Bool} {R : BK} : St (kB R (.bl b) H) (R b H) := ⟨g_kBl⟩
def kAn (tu : TT) (σ : L2.St) (R : BK) : BK := kIf (fun H1 => tu σ H1 R) (R false)
def kOr (tu : TT) (σ : L2.St) (R : BK) : BK := kIf (R true) (fun H1 => tu σ H1 R)
def kNo (R : BK) : BK := fun c H1 => R (!c) H1
theorem g_and {R : BK} (h : tt σ H (kIf (fun H1 => tu σ H1 R) (R false))) : tAnd tt tu σ H R := h
instance i_and {R : BK} : St (tAnd tt tu σ H R) (tt σ H (kIf (fun H1 => tu σ H1 R) (R false))) := ⟨g_and⟩
theorem g_or {R : BK} (h : tt σ H (kIf (R true) (fun H1 => tu σ H1 R))) : tOr tt tu σ H R := h
instance i_or {R : BK} : St (tOr tt tu σ H R) (tt σ H (kIf (R true) (fun H1 => tu σ H1 R))) := ⟨g_or⟩
theorem g_not {R : BK} (h : tt σ H (kNo R)) : tNot tt σ H R := h
instance i_not {R : BK} : St (tNot tt σ H R) (tt σ H (kNo R)) := ⟨g_not⟩
theorem g_kNo {R : BK} {b : Bool} (h : R (!b) H) : kNo R b H := h
instance i_kNo {R : BK} {b : Bool} : St (kNo R b H) (R (!b) H) := ⟨g_kNo⟩
theorem g_ifE (h : tt σ H (kIf (fun H1 => te σ H1 Q) (fun H1 => tf σ H1 Q))) : tIf tt te tf σ H Q := h
instance i_ifE : St (tIf tt te tf σ H Q) (tt σ H (kIf (fun H1 => te σ H1 Q) (fun H1 => tf σ H1 Q))) := ⟨g_ifE⟩
def kNV (Q : VK) : VK := fun x H1 => ∃ c, x = .bl c ∧ Q (.bl (!c)) H1
def kIV (A B : Hp → Prop) : VK := fun x H1 => ∃ c, x = .bl c ∧ kIf A B c H1
theorem g_notV (h : te σ H (kNV Q)) : tNotV te σ H Q := h
instance i_notV : St (tNotV te σ H Q) (te σ H (kNV Q)) := ⟨g_notV⟩
theorem g_kNV {b : Bool} (h : Q (.bl (!b)) H) : kNV Q (.bl b) H := ⟨b, rfl, h⟩
instance i_kNV {b : Bool} : St (kNV Q (.bl b) H) (Q (.bl (!b)) H) := ⟨g_kNV⟩
theorem g_andV (h : te σ H (kIV (fun H1 => tf σ H1 Q) (fun H1 => Q (.bl false) H1))) : tAndV te tf σ H Q := h
instance i_andV : St (tAndV te tf σ H Q) (te σ H (kIV (fun H1 => tf σ H1 Q) (fun H1 => Q (.bl false) H1))) := ⟨g_andV⟩
theorem g_orV (h : te σ H (kIV (fun H1 => Q (.bl true) H1) (fun H1 => tf σ H1 Q))) : tOrV te tf σ H Q := h
instance i_orV : St (tOrV te tf σ H Q) (te σ H (kIV (fun H1 => Q (.bl true) H1) (fun H1 => tf σ H1 Q))) := ⟨g_orV⟩
theorem g_kIV {A B : Hp → Prop} {b : Bool} (h : kIf A B b H) : kIV A B (.bl b) H := ⟨b, rfl, h⟩
instance i_kIV {A B : Hp → Prop} {b : Bool} : St (kIV A B (.bl b) H) (kIf A B b H) := ⟨g_kIV⟩
theorem g_eq (s : scal x y = true) (h : Q (.bl (decide (x = y))) H) : rEq x y H Q := ⟨s, h⟩
theorem g_eqI (h : Q (.bl (decide (i = j))) H) : rEq (.int i) (.int j) H Q := ⟨rfl, by rw [show decide (V.int i = V.int j) = decide (i = j) by simp]; exact h⟩
instance i_eqI : St (rEq (.int i) (.int j) H Q) (Q (.bl (decide (i = j))) H) := ⟨g_eqI⟩
theorem g_neI (h : Q (.bl (!decide (i = j))) H) : rNe (.int i) (.int j) H Q := ⟨rfl, by rw [show decide (V.int i = V.int j) = decide (i = j) by simp]; exact h⟩
instance i_neI : St (rNe (.int i) (.int j) H Q) (Q (.bl (!decide (i = j))) H) := ⟨g_neI⟩
theorem g_eqS {a b : Str} (h : Q (.bl (decide (a = b))) H) : rEq (.str a) (.str b) H Q := ⟨rfl, by rw [show decide (V.str a = V.str b) = decide (a = b) by simp]; exact h⟩
instance i_eqS {a b : Str} : St (rEq (.str a) (.str b) H Q) (Q (.bl (decide (a = b))) H) := ⟨g_eqS⟩
theorem g_neS {a b : Str} (h : Q (.bl (!decide (a = b))) H) : rNe (.str a) (.str b) H Q := ⟨rfl, by rw [show decide (V.str a = V.str b) = decide (a = b) by simp]; exact h⟩
instance i_neS {a b : Str} : St (rNe (.str a) (.str b) H Q) (Q (.bl (!decide (a = b))) H) := ⟨g_neS⟩
theorem g_ixL {p : Addr} {xs : List V} (e : H p = some (.lst xs)) (a : atI xs i = some v) (h : Q v H) : rIxL K (.ref p) (.int i) H Q := ⟨p, xs, i, v, rfl, rfl, SqL.of e, a, h⟩
theorem g_ixT {p : Addr} {xs : List V} (e : H p = some (.tup xs)) (a : atI xs i = some v) (h : Q v H) : rIxT K (.ref p) (.int i) H Q := ⟨p, xs, i, v, rfl, rfl, SqT.of e, a, h⟩
def kHp (R : L2.St → Hp → Prop) (σ : L2.St) : Hp → Prop := fun H3 => R σ H3
def kS1 (ti : TE) (s : TSet) (v : V) (σ : L2.St) (R : L2.St → Hp → Prop) : VK := fun o H1 => ti σ H1 fun i H2 => s o i v H2 fun H3 => R σ H3
def kS2 (s : TSet) (o v : V) (σ : L2.St) (R : L2.St → Hp → Prop) : VK := fun i H2 => s o i v H2 (kHp R σ)
theorem g_sub {to ti : TE} {s : TSet} {R : L2.St → Hp → Prop} (h : to σ H (kS1 ti s v σ R)) : gSub to ti s v σ H R := h
instance i_sub {to ti : TE} {s : TSet} {R : L2.St → Hp → Prop} : St (gSub to ti s v σ H R) (to σ H (kS1 ti s v σ R)) := ⟨g_sub⟩
theorem g_kS1 {ti : TE} {s : TSet} {R : L2.St → Hp → Prop} (h : ti σ H (kS2 s x v σ R)) : kS1 ti s v σ R x H := h
instance i_kS1 {ti : TE} {s : TSet} {R : L2.St → Hp → Prop} : St (kS1 ti s v σ R x H) (ti σ H (kS2 s x v σ R)) := ⟨g_kS1⟩
theorem g_kS2 {s : TSet} {R : L2.St → Hp → Prop} (h : s x y v H (kHp R σ)) : kS2 s x v σ R y H := h
instance i_kS2 {s : TSet} {R : L2.St → Hp → Prop} : St (kS2 s x v σ R y H) (s x y v H (kHp R σ)) := ⟨g_kS2⟩
theorem g_kHp {R : L2.St → Hp → Prop} (h : R σ H) : kHp R σ H := h
instance i_kHp {R : L2.St → Hp → Prop} : St (kHp R σ H) (R σ H) := ⟨g_kHp⟩
theorem g_setL {p : Addr} {xs : List V} {n : Nat} {R : Hp → Prop} (e : H p = some (.lst xs)) (a : ixN xs.length i = some n) (h : R (upd H p (.lst (xs.set n v)))) : rSetL (.ref p) (.int i) v H R := ⟨p, xs, i, n, rfl, rfl, e, a, h⟩
theorem g_setL0 {p : Addr} {a : V} {r : List V} {R : Hp → Prop} (e : H p = some (.lst (a :: r))) (h : R (upd H p (.lst (v :: r)))) : rSetL (.ref p) (.int 0) v H R := g_setL e (n := 0) (ixN_of rfl (by simp)) h
theorem g_setL1 {p : Addr} {a b : V} {r : List V} {R : Hp → Prop} (e : H p = some (.lst (a :: b :: r))) (h : R (upd H p (.lst (a :: v :: r)))) : rSetL (.ref p) (.int 1) v H R := g_setL e (n := 1) (ixN_of rfl (by simp)) h
def kBM (K : PySem.W.Frag) (T : String) (r : V → List V → Hp → VK → Prop) (ta : TA) (σ : L2.St) (Q : VK) : VK := fun x H1 => tyV K T x H1 ∧ ta σ H1 fun xs H2 => r x xs H2 Q
def kBM2 (r : V → List V → Hp → VK → Prop) (x : V) (Q : VK) : LK := fun xs H2 => r x xs H2 Q
def kBM0 (K : PySem.W.Frag) (T : String) (r : V → List V → Hp → VK → Prop) (Q : VK) : VK := fun x H1 => tyV K T x H1 ∧ r x [] H1 Q
theorem g_bm {T : String} {r : V → List V → Hp → VK → Prop} (h : te σ H (kBM K T r ta σ Q)) : tBM K T r te ta σ H Q := h
instance i_bm {T : String} {r : V → List V → Hp → VK → Prop} : St (tBM K T r te ta σ H Q) (te σ H (kBM K T r ta σ Q)) := ⟨g_bm⟩
theorem g_bm0 {T : String} {r : V → List V → Hp → VK → Prop} (h : te σ H (kBM0 K T r Q)) : tBM0 K T r te σ H Q := h
instance i_bm0 {T : String} {r : V → List V → Hp → VK → Prop} : St (tBM0 K T r te σ H Q) (te σ H (kBM0 K T r Q)) := ⟨g_bm0⟩
theorem g_kBMl {r : V → List V → Hp → VK → Prop} {p : Addr} {xs : List V} (e : H p = some (.lst xs)) (h : ta σ H (kBM2 r (.ref p) Q)) : kBM K "list" r ta σ Q (.ref p) H := ⟨.inl ⟨rfl, xs, SqL.of e⟩, h⟩
theorem g_kBM0l {r : V → List V → Hp → VK → Prop} {p : Addr} {xs : List V} (e : H p = some (.lst xs)) (h : r (.ref p) [] H Q) : kBM0 K "list" r Q (.ref p) H := ⟨.inl ⟨rfl, xs, SqL.of e⟩, h⟩
theorem g_kBM2 {r : V → List V → Hp → VK → Prop} {xs : List V} (h : r x xs H Q) : kBM2 r x Q xs H := h
instance i_kBM2 {r : V → List V → Hp → VK → Prop} {xs : List V} : St (kBM2 r x Q xs H) (r x xs H Q) := ⟨g_kBM2⟩
theorem g_append {p : Addr} {xs : List V} (e : H p = some (.lst xs)) (s : xs.length < sizeLine) (h : Q .non (upd H p (.lst (xs ++ [y])))) : rAppend (.ref p) [y] H Q := ⟨p, xs, y, rfl, rfl, e, s, h⟩
theorem g_popAt {p : Addr} {xs : List V} {n : Nat} (e : H p = some (.lst xs)) (b : i = (n : Int)) (hn : xs[n]? = some y) (hz : xs.length ≤ 1000000) (h : Q y (upd H p (.lst (xs.eraseIdx n)))) : rPopAt (.ref p) [.int i] H Q := by
  have hl := (List.getElem?_eq_some_iff.mp hn).1
  refine ⟨p, xs, i, n, y, rfl, rfl, e, by omega, by omega, ?_, hn, h⟩
  subst b
  unfold seqIndex?
  have hn0 : ¬ (n : Int) < 0 := by omega
  simp [hl, hn0]
def rLn (K : PySem.W.Frag) : List V → Hp → VK → Prop := fun xs H Q => ∃ p ys, xs = [.ref p] ∧ (SqL K H p ys ∨ SqT K H p ys) ∧ Q (.int ys.length) H
theorem cr_len : CallR X (.builtin "len") (rLn X.K) := call_len_seq
theorem g_len {p : Addr} {xs : List V} (e : H p = some (.lst xs)) (h : Q (.int (xs.length : Int)) H) : rLn K [.ref p] H Q := ⟨p, xs, rfl, .inl (SqL.of e), h⟩
theorem g_lenT {p : Addr} {xs : List V} (e : H p = some (.tup xs)) (h : Q (.int (xs.length : Int)) H) : rLn K [.ref p] H Q := ⟨p, xs, rfl, .inr (SqT.of e), h⟩
def rLo (K : PySem.W.Frag) : List V → Hp → VK → Prop := fun xs H Q => ∃ p ys, xs = [.ref p] ∧ (SqL K H p ys ∨ SqT K H p ys) ∧ ∀ l, H l = none → Q (.ref l) (upd H l (.lst ys))
theorem cr_list : CallR X (.type "list") (rLo X.K) := call_list_of
theorem g_list {p : Addr} {xs : List V} (e : H p = some (.lst xs)) (h : ∀ l, H l = none → Q (.ref l) (upd H l (.lst xs))) : rLo K [.ref p] H Q := ⟨p, xs, rfl, .inl (SqL.of e), h⟩
def rIn1 : List V → Hp → VK → Prop := fun xs H Q => (∃ i, xs = [.int i] ∧ Q (.int i) H) ∨ ∃ k, xs = [.bl k] ∧ Q (.int (if k then 1 else 0)) H
theorem cr_int : CallR X (.type "int") rIn1 := call_int1
theorem g_int1 (h : Q (.int i) H) : rIn1 [.int i] H Q := .inl ⟨i, rfl, h⟩
instance i_int1 : St (rIn1 [.int i] H Q) (Q (.int i) H) := ⟨g_int1⟩
theorem g_intB {b : Bool} (h : Q (.int (if b then 1 else 0)) H) : rIn1 [.bl b] H Q := .inr ⟨b, rfl, h⟩
instance i_intB {b : Bool} : St (rIn1 [.bl b] H Q) (Q (.int (if b then 1 else 0)) H) := ⟨g_intB⟩
def rMn : List V → Hp → VK → Prop := fun xs H Q => ∃ i j, xs = [.int i, .int j] ∧ Q (.int (if j < i then j else i)) H
def rMx : List V → Hp → VK → Prop := fun xs H Q => ∃ i j, xs = [.int i, .int j] ∧ Q (.int (if j > i then j else i)) H
theorem cr_min2 (hc : X.calm = true) : CallR X (.builtin "min") rMn := call_min2 hc
theorem cr_max2 (hc : X.calm = true) : CallR X (.builtin "max") rMx := call_max2 hc
theorem g_min2 (h : Q (.int (if j < i then j else i)) H) : rMn [.int i, .int j] H Q := ⟨i, j, rfl, h⟩
instance i_min2 : St (rMn [.int i, .int j] H Q) (Q (.int (if j < i then j else i)) H) := ⟨g_min2⟩
theorem g_max2 (h : Q (.int (if j > i then j else i)) H) : rMx [.int i, .int j] H Q := ⟨i, j, rfl, h⟩
instance i_max2 : St (rMx [.int i, .int j] H Q) (Q (.int (if j > i then j else i)) H) := ⟨g_max2⟩
theorem g_neD {d e : PyData} (a : Dp K H x d) (b : Dp K H y e) (c : SeqAt.shaped d = true) (c' : SeqAt.shaped e = true) (h : Q (.bl (!PyData.eqv d e)) H) : rNeD K x y H Q := ⟨d, e, a, b, c, c', h⟩
theorem g_eqD {d e : PyData} (a : Dp K H x d) (b : Dp K H y e) (c : SeqAt.shaped d = true) (c' : SeqAt.shaped e = true) (h : Q (.bl (PyData.eqv d e)) H) : rEqD K x y H Q := ⟨d, e, a, b, c, c', h⟩
abbrev IK := Int → Int → Hp → Prop
def k1I (R : IK) : VK := fun x H1 => ∃ n, x = .int n ∧ R 0 n H1
def k2I (R : IK) (x : V) : VK := fun y H1 => ∃ i j, x = .int i ∧ y = .int j ∧ R i j H1
def k2J (R : IK) (tf : TE) (σ : L2.St) : VK := fun x H1 => tf σ H1 (k2I R x)
def kRg (Q : VK) : IK := fun a b H1 => RgOk a b ∧ ∀ q, H1 q = none → Q (.ref q) (upd H1 q (.lst (rgV a b)))
theorem g_inS {p : Addr} {xs : List V} (e : H p = some (.lst xs)) (f : flatV x = true) (a : xs.all flatV = true) (h : Q (.bl (inV x xs)) H) : rIn K false x (.ref p) H Q := ⟨p, xs, rfl, .inl (SqL.of e), f, a, h⟩
theorem g_niS {p : Addr} {xs : List V} (e : H p = some (.lst xs)) (f : flatV x = true) (a : xs.all flatV = true) (h : Q (.bl (!inV x xs)) H) : rIn K true x (.ref p) H Q := ⟨p, xs, rfl, .inl (SqL.of e), f, a, h⟩
theorem g_rg {ti : L2.St → Hp → IK → Prop} (h : ti σ H (kRg Q)) : tLstRg ti σ H Q := h
instance i_rg {ti : L2.St → Hp → IK → Prop} : St (tLstRg ti σ H Q) (ti σ H (kRg Q)) := ⟨g_rg⟩
theorem g_rg1 {R : IK} (h : te σ H (k1I R)) : tRg1 te σ H R := h
instance i_rg1 {R : IK} : St (tRg1 te σ H R) (te σ H (k1I R)) := ⟨g_rg1⟩
theorem g_rg2 {R : IK} (h : te σ H (k2J R tf σ)) : tRg2 te tf σ H R := h
instance i_rg2 {R : IK} : St (tRg2 te tf σ H R) (te σ H (k2J R tf σ)) := ⟨g_rg2⟩
theorem g_k1I {R : IK} (h : R 0 i H) : k1I R (.int i) H := ⟨i, rfl, h⟩
instance i_k1I {R : IK} : St (k1I R (.int i) H) (R 0 i H) := ⟨g_k1I⟩
theorem g_k2I {R : IK} (h : R i j H) : k2I R (.int i) (.int j) H := ⟨i, j, rfl, rfl, h⟩
instance i_k2I {R : IK} : St (k2I R (.int i) (.int j) H) (R i j H) := ⟨g_k2I⟩
theorem g_k2J {R : IK} (h : tf σ H (k2I R x)) : k2J R tf σ x H := h
instance i_k2J {R : IK} : St (k2J R tf σ x H) (tf σ H (k2I R x)) := ⟨g_k2J⟩
theorem g_kRg (h1 : -(2 ^ 20) ≤ i ∧ i < 2 ^ 20 ∧ j < 2 ^ 20 ∧ -(2 ^ 20) ≤ j) (h : ∀ q, H q = none → Q (.ref q) (upd H q (.lst (rgV i j)))) : kRg Q i j H := ⟨⟨by omega, by omega, by omega, by omega, by omega⟩, h⟩
theorem g_while {tb : TS} (Pv : L2.St → Hp → Prop) (μ : L2.St → Hp → Nat) (h0 : Pv σ H)
    (hs : ∀ σ H, Pv σ H → tt σ H (kIf (fun H1 => tb ⟨fun σ' H' => Pv σ' H' ∧ μ σ' H' < μ σ H, D.rt, D.nx, fun σ' H' => Pv σ' H' ∧ μ σ' H' < μ σ H⟩ σ H1) (D.nx σ)))
    (mono : ∀ σ H Q Q', (∀ b H1, Q b H1 → Q' b H1) → tt σ H Q → tt σ H Q') : tWhile tt tb D σ H := while_by Pv μ h0 hs mono
abbrev JK := It → Hp → Prop
def kIL (K : PySem.W.Frag) (R : JK) : VK := fun x H1 => ∃ a, x = .ref a ∧ (∃ xs, SqL K H1 a xs) ∧ R (Itl K a) H1
theorem g_iL {R : JK} (h : te σ H (kIL K R)) : iList K te σ H R := h
instance i_iL {R : JK} : St (iList K te σ H R) (te σ H (kIL K R)) := ⟨g_iL⟩
theorem g_kIL {R : JK} {p : Addr} {xs : List V} (e : H p = some (.lst xs)) (h : R (Itl K p) H) : kIL K R (.ref p) H := ⟨p, rfl, ⟨xs, SqL.of e⟩, h⟩
theorem g_kILf {R : JK} {p : Addr} {xs : List V} (e : SqL K H p xs) (h : R (Itl K p) H) : kIL K R (.ref p) H := ⟨p, rfl, ⟨xs, e⟩, h⟩
def kIR1 (R : JK) : LK := fun vs H1 => ∃ j : Int, vs = [.int j] ∧ -(2 ^ 62) ≤ j ∧ j < 2 ^ 62 ∧ R (Itr 0 j.toNat) H1
def kIR2 (R : JK) : LK := fun vs H1 => ∃ i j : Int, vs = [.int i, .int j] ∧ (-(2 ^ 62) ≤ i ∧ i < 2 ^ 62 ∧ -(2 ^ 62) ≤ j ∧ j < 2 ^ 62) ∧ R (Itr i (j - i).toNat) H1
theorem g_iR1 {R : JK} (h : ta σ H (kIR1 R)) : iRng1 ta σ H R := h
instance i_iR1 {R : JK} : St (iRng1 ta σ H R) (ta σ H (kIR1 R)) := ⟨g_iR1⟩
theorem g_iR2 {R : JK} (h : ta σ H (kIR2 R)) : iRng2 ta σ H R := h
instance i_iR2 {R : JK} : St (iRng2 ta σ H R) (ta σ H (kIR2 R)) := ⟨g_iR2⟩
theorem g_kIR1 {R : JK} (h1 : -(2 ^ 62) ≤ j ∧ j < 2 ^ 62) (h : R (Itr 0 j.toNat) H) : kIR1 R [.int j] H := ⟨j, rfl, h1.1, h1.2, h⟩
theorem g_kIR2 {R : JK} (h1 : -(2 ^ 62) ≤ i ∧ i < 2 ^ 62 ∧ -(2 ^ 62) ≤ j ∧ j < 2 ^ 62) (h : R (Itr i (j - i).toNat) H) : kIR2 R [.int i, .int j] H := ⟨i, j, rfl, h1, h⟩
def kFor (g : TG) (tb : TS) (D : Ends) (σ : L2.St) : JK := fun J H1 => ∃ W : Nat → Nat → L2.St → Hp → Prop, (∃ m, W 0 m σ H1) ∧ ∀ i m σ H, W i m σ H →
  (J.stop i H ∧ D.nx σ H) ∨ (J.go i H ∧ ∃ N : L2.St → Hp → Prop, (∀ σ' H', N σ' H' → ∃ m', m' < m ∧ W (i + 1) m' σ' H') ∧ ∀ x H', J.yld i H x H' → g x σ H' fun σ2 H2 => tb { D with nx := N, ct := N, bk := D.nx } σ2 H2)
theorem g_for {wi : TI} {tb : TS} (h : wi σ H (kFor g tb D σ)) : tFor wi g tb D σ H := h
instance i_for {wi : TI} {tb : TS} : St (tFor wi g tb D σ H) (wi σ H (kFor g tb D σ)) := ⟨g_for⟩
theorem g_forL {tb : TS} {p : Addr} {xs : List V} (Pv : Nat → L2.St → Hp → Prop) (h0 : Pv 0 σ H) (hl : ∀ i σ H, i ≤ xs.length → Pv i σ H → SqL K H p xs)
    (hs : ∀ i x σ H, xs[i]? = some x → Pv i σ H → g x σ H (tb ⟨Pv (i + 1), D.rt, D.nx, Pv (i + 1)⟩)) (hd : ∀ σ H, Pv xs.length σ H → D.nx σ H) : kFor g tb D σ (Itl K p) H := for_list Pv h0 hl hs hd
theorem g_forR {tb : TS} {lo : Int} {n : Nat} (Pv : Nat → L2.St → Hp → Prop) (h0 : Pv 0 σ H)
    (hs : ∀ i σ H, i < n → Pv i σ H → g (.int (lo + i)) σ H (tb ⟨Pv (i + 1), D.rt, D.nx, Pv (i + 1)⟩)) (hd : ∀ σ H, Pv n σ H → D.nx σ H) : kFor g tb D σ (Itr lo n) H := for_range Pv h0 hs hd
/-- a power of whole numbers of any size, within 2 ^ 27 bits -/
theorem op_powG : OpR X (binaryOp .Pow) (rI (fun i j => 0 ≤ j ∧ (Builtin.Int.intBits i : Int) * j ≤ 2 ^ 27) fun i j => .int (i ^ j.toNat)) := opI fun _ _ _ _ _ _ _ hc q => PyProof.Rows.pow_int hc.1 hc.2 q
theorem g_name0 {R : L2.St → Hp → Prop} {b : Option V} {r : L2.St} (h : R (some v :: r) H) : gName 0 v (b :: r) H R := h
instance i_name0 {R : L2.St → Hp → Prop} {b : Option V} {r : L2.St} : St (gName 0 v (b :: r) H R) (R (some v :: r) H) := ⟨g_name0⟩
theorem g_var0 {r : L2.St} (h : Q v H) : tVar 0 (some v :: r) H Q := ⟨v, rfl, h⟩
instance i_var0 {r : L2.St} : St (tVar 0 (some v :: r) H Q) (Q v H) := ⟨g_var0⟩
theorem g_name1 {R : L2.St → Hp → Prop} {a0 : Option V} {b : Option V} {r : L2.St} (h : R (a0 :: some v :: r) H) : gName 1 v (a0 :: b :: r) H R := h
instance i_name1 {R : L2.St → Hp → Prop} {a0 : Option V} {b : Option V} {r : L2.St} : St (gName 1 v (a0 :: b :: r) H R) (R (a0 :: some v :: r) H) := ⟨g_name1⟩
theorem g_var1 {a0 : Option V} {r : L2.St} (h : Q v H) : tVar 1 (a0 :: some v :: r) H Q := ⟨v, rfl, h⟩
instance i_var1 {a0 : Option V} {r : L2.St} : St (tVar 1 (a0 :: some v :: r) H Q) (Q v H) := ⟨g_var1⟩
theorem g_name2 {R : L2.St → Hp → Prop} {a0 a1 : Option V} {b : Option V} {r : L2.St} (h : R (a0 :: a1 :: some v :: r) H) : gName 2 v (a0 :: a1 :: b :: r) H R := h
instance i_name2 {R : L2.St → Hp → Prop} {a0 a1 : Option V} {b : Option V} {r : L2.St} : St (gName 2 v (a0 :: a1 :: b :: r) H R) (R (a0 :: a1 :: some v :: r) H) := ⟨g_name2⟩
theorem g_var2 {a0 a1 : Option V} {r : L2.St} (h : Q v H) : tVar 2 (a0 :: a1 :: some v :: r) H Q := ⟨v, rfl, h⟩
instance i_var2 {a0 a1 : Option V} {r : L2.St} : St (tVar 2 (a0 :: a1 :: some v :: r) H Q) (Q v H) := ⟨g_var2⟩
theorem g_name3 {R : L2.St → Hp → Prop} {a0 a1 a2 : Option V} {b : Option V} {r : L2.St} (h : R (a0 :: a1 :: a2 :: some v :: r) H) : gName 3 v (a0 :: a1 :: a2 :: b :: r) H R := h
instance i_name3 {R : L2.St → Hp → Prop} {a0 a1 a2 : Option V} {b : Option V} {r : L2.St} : St (gName 3 v (a0 :: a1 :: a2 :: b :: r) H R) (R (a0 :: a1 :: a2 :: some v :: r) H) := ⟨g_name3⟩
theorem g_var3 {a0 a1 a2 : Option V} {r : L2.St} (h : Q v H) : tVar 3 (a0 :: a1 :: a2 :: some v :: r) H Q := ⟨v, rfl, h⟩
instance i_var3 {a0 a1 a2 : Option V} {r : L2.St} : St (tVar 3 (a0 :: a1 :: a2 :: some v :: r) H Q) (Q v H) := ⟨g_var3⟩
theorem g_name4 {R : L2.St → Hp → Prop} {a0 a1 a2 a3 : Option V} {b : Option V} {r : L2.St} (h : R (a0 :: a1 :: a2 :: a3 :: some v :: r) H) : gName 4 v (a0 :: a1 :: a2 :: a3 :: b :: r) H R := h
instance i_name4 {R : L2.St → Hp → Prop} {a0 a1 a2 a3 : Option V} {b : Option V} {r : L2.St} : St (gName 4 v (a0 :: a1 :: a2 :: a3 :: b :: r) H R) (R (a0 :: a1 :: a2 :: a3 :: some v :: r) H) := ⟨g_name4⟩
theorem g_var4 {a0 a1 a2 a3 : Option V} {r : L2.St} (h : Q v H) : tVar 4 (a0 :: a1 :: a2 :: a3 :: some v :: r) H Q := ⟨v, rfl, h⟩
instance i_var4 {a0 a1 a2 a3 : Option V} {r : L2.St} : St (tVar 4 (a0 :: a1 :: a2 :: a3 :: some v :: r) H Q) (Q v H) := ⟨g_var4⟩
theorem g_name5 {R : L2.St → Hp → Prop} {a0 a1 a2 a3 a4 : Option V} {b : Option V} {r : L2.St} (h : R (a0 :: a1 :: a2 :: a3 :: a4 :: some v :: r) H) : gName 5 v (a0 :: a1 :: a2 :: a3 :: a4 :: b :: r) H R := h
instance i_name5 {R : L2.St → Hp → Prop} {a0 a1 a2 a3 a4 : Option V} {b : Option V} {r : L2.St} : St (gName 5 v (a0 :: a1 :: a2 :: a3 :: a4 :: b :: r) H R) (R (a0 :: a1 :: a2 :: a3 :: a4 :: some v :: r) H) := ⟨g_name5⟩
theorem g_var5 {a0 a1 a2 a3 a4 : Option V} {r : L2.St} (h : Q v H) : tVar 5 (a0 :: a1 :: a2 :: a3 :: a4 :: some v :: r) H Q := ⟨v, rfl, h⟩
instance i_var5 {a0 a1 a2 a3 a4 : Option V} {r : L2.St} : St (tVar 5 (a0 :: a1 :: a2 :: a3 :: a4 :: some v :: r) H Q) (Q v H) := ⟨g_var5⟩
theorem g_name6 {R : L2.St → Hp → Prop} {a0 a1 a2 a3 a4 a5 : Option V} {b : Option V} {r : L2.St} (h : R (a0 :: a1 :: a2 :: a3 :: a4 :: a5 :: some v :: r) H) : gName 6 v (a0 :: a1 :: a2 :: a3 :: a4 :: a5 :: b :: r) H R := h
instance i_name6 {R : L2.St → Hp → Prop} {a0 a1 a2 a3 a4 a5 : Option V} {b : Option V} {r : L2.St} : St (gName 6 v (a0 :: a1 :: a2 :: a3 :: a4 :: a5 :: b :: r) H R) (R (a0 :: a1 :: a2 :: a3 :: a4 :: a5 :: some v :: r) H) := ⟨g_name6⟩
theorem g_var6 {a0 a1 a2 a3 a4 a5 : Option V} {r : L2.St} (h : Q v H) : tVar 6 (a0 :: a1 :: a2 :: a3 :: a4 :: a5 :: some v :: r) H Q := ⟨v, rfl, h⟩
instance i_var6 {a0 a1 a2 a3 a4 a5 : Option V} {r : L2.St} : St (tVar 6 (a0 :: a1 :: a2 :: a3 :: a4 :: a5 :: some v :: r) H Q) (Q v H) := ⟨g_var6⟩
theorem g_name7 {R : L2.St → Hp → Prop} {a0 a1 a2 a3 a4 a5 a6 : Option V} {b : Option V} {r : L2.St} (h : R (a0 :: a1 :: a2 :: a3 :: a4 :: a5 :: a6 :: some v :: r) H) : gName 7 v (a0 :: a1 :: a2 :: a3 :: a4 :: a5 :: a6 :: b :: r) H R := h
instance i_name7 {R : L2.St → Hp → Prop} {a0 a1 a2 a3 a4 a5 a6 : Option V} {b : Option V} {r : L2.St} : St (gName 7 v (a0 :: a1 :: a2 :: a3 :: a4 :: a5 :: a6 :: b :: r) H R) (R (a0 :: a1 :: a2 :: a3 :: a4 :: a5 :: a6 :: some v :: r) H) := ⟨g_name7⟩
theorem g_var7 {a0 a1 a2 a3 a4 a5 a6 : Option V} {r : L2.St} (h : Q v H) : tVar 7 (a0 :: a1 :: a2 :: a3 :: a4 :: a5 :: a6 :: some v :: r) H Q := ⟨v, rfl, h⟩
instance i_var7 {a0 a1 a2 a3 a4 a5 a6 : Option V} {r : L2.St} : St (tVar 7 (a0 :: a1 :: a2 :: a3 :: a4 :: a5 :: a6 :: some v :: r) H Q) (Q v H) := ⟨g_var7⟩
theorem g_name8 {R : L2.St → Hp → Prop} {a0 a1 a2 a3 a4 a5 a6 a7 : Option V} {b : Option V} {r : L2.St} (h : R (a0 :: a1 :: a2 :: a3 :: a4 :: a5 :: a6 :: a7 :: some v :: r) H) : gName 8 v (a0 :: a1 :: a2 :: a3 :: a4 :: a5 :: a6 :: a7 :: b :: r) H R := h
instance i_name8 {R : L2.St → Hp → Prop} {a0 a1 a2 a3 a4 a5 a6 a7 : Option V} {b : Option V} {r : L2.St} : St (gName 8 v (a0 :: a1 :: a2 :: a3 :: a4 :: a5 :: a6 :: a7 :: b :: r) H R) (R (a0 :: a1 :: a2 :: a3 :: a4 :: a5 :: a6 :: a7 :: some v :: r) H) := ⟨g_name8⟩
theorem g_var8 {a0 a1 a2 a3 a4 a5 a6 a7 : Option V} {r : L2.St} (h : Q v H) : tVar 8 (a0 :: a1 :: a2 :: a3 :: a4 :: a5 :: a6 :: a7 :: some v :: r) H Q := ⟨v, rfl, h⟩
instance i_var8 {a0 a1 a2 a3 a4 a5 a6 a7 : Option V} {r : L2.St} : St (tVar 8 (a0 :: a1 :: a2 :: a3 :: a4 :: a5 :: a6 :: a7 :: some v :: r) H Q) (Q v H) := ⟨g_var8⟩
theorem g_name9 {R : L2.St → Hp → Prop} {a0 a1 a2 a3 a4 a5 a6 a7 a8 : Option V} {b : Option V} {r : L2.St} (h : R (a0 :: a1 :: a2 :: a3 :: a4 :: a5 :: a6 :: a7 :: a8 :: some v :: r) H) : gName 9 v (a0 :: a1 :: a2 :: a3 :: a4 :: a5 :: a6 :: a7 :: a8 :: b :: r) H R := h
instance i_name9 {R : L2.St → Hp → Prop} {a0 a1 a2 a3 a4 a5 a6 a7 a8 : Option V} {b : Option V} {r : L2.St} : St (gName 9 v (a0 :: a1 :: a2 :: a3 :: a4 :: a5 :: a6 :: a7 :: a8 :: b :: r) H R) (R (a0 :: a1 :: a2 :: a3 :: a4 :: a5 :: a6 :: a7 :: a8 :: some v :: r) H) := ⟨g_name9⟩
theorem g_var9 {a0 a1 a2 a3 a4 a5 a6 a7 a8 : Option V} {r : L2.St} (h : Q v H) : tVar 9 (a0 :: a1 :: a2 :: a3 :: a4 :: a5 :: a6 :: a7 :: a8 :: some v :: r) H Q := ⟨v, rfl, h⟩
instance i_var9 {a0 a1 a2 a3 a4 a5 a6 a7 a8 : Option V} {r : L2.St} : St (tVar 9 (a0 :: a1 :: a2 :: a3 :: a4 :: a5 :: a6 :: a7 :: a8 :: some v :: r) H Q) (Q v H) := ⟨g_var9⟩
theorem g_name10 {R : L2.St → Hp → Prop} {a0 a1 a2 a3 a4 a5 a6 a7 a8 a9 : Option V} {b : Option V} {r : L2.St} (h : R (a0 :: a1 :: a2 :: a3 :: a4 :: a5 :: a6 :: a7 :: a8 :: a9 :: some v :: r) H) : gName 10 v (a0 :: a1 :: a2 :: a3 :: a4 :: a5 :: a6 :: a7 :: a8 :: a9 :: b :: r) H R := h
instance i_name10 {R : L2.St → Hp → Prop} {a0 a1 a2 a3 a4 a5 a6 a7 a8 a9 : Option V} {b : Option V} {r : L2.St} : St (gName 10 v (a0 :: a1 :: a2 :: a3 :: a4 :: a5 :: a6 :: a7 :: a8 :: a9 :: b :: r) H R) (R (a0 :: a1 :: a2 :: a3 :: a4 :: a5 :: a6 :: a7 :: a8 :: a9 :: some v :: r) H) := ⟨g_name10⟩
theorem g_var10 {a0 a1 a2 a3 a4 a5 a6 a7 a8 a9 : Option V} {r : L2.St} (h : Q v H) : tVar 10 (a0 :: a1 :: a2 :: a3 :: a4 :: a5 :: a6 :: a7 :: a8 :: a9 :: some v :: r) H Q := ⟨v, rfl, h⟩
instance i_var10 {a0 a1 a2 a3 a4 a5 a6 a7 a8 a9 : Option V} {r : L2.St} : St (tVar 10 (a0 :: a1 :: a2 :: a3 :: a4 :: a5 :: a6 :: a7 :: a8 :: a9 :: some v :: r) H Q) (Q v H) := ⟨g_var10⟩
theorem g_name11 {R : L2.St → Hp → Prop} {a0 a1 a2 a3 a4 a5 a6 a7 a8 a9 a10 : Option V} {b : Option V} {r : L2.St} (h : R (a0 :: a1 :: a2 :: a3 :: a4 :: a5 :: a6 :: a7 :: a8 :: a9 :: a10 :: some v :: r) H) : gName 11 v (a0 :: a1 :: a2 :: a3 :: a4 :: a5 :: a6 :: a7 :: a8 :: a9 :: a10 :: b :: r) H R := h
instance i_name11 {R : L2.St → Hp → Prop} {a0 a1 a2 a3 a4 a5 a6 a7 a8 a9 a10 : Option V} {b : Option V} {r : L2.St} : St (gName 11 v (a0 :: a1 :: a2 :: a3 :: a4 :: a5 :: a6 :: a7 :: a8 :: a9 :: a10 :: b :: r) H R) (R (a0 :: a1 :: a2 :: a3 :: a4 :: a5 :: a6 :: a7 :: a8 :: a9 :: a10 :: some v :: r) H) := ⟨g_name11⟩
theorem g_var11 {a0 a1 a2 a3 a4 a5 a6 a7 a8 a9 a10 : Option V} {r : L2.St} (h : Q v H) : tVar 11 (a0 :: a1 :: a2 :: a3 :: a4 :: a5 :: a6 :: a7 :: a8 :: a9 :: a10 :: some v :: r) H Q := ⟨v, rfl, h⟩
instance i_var11 {a0 a1 a2 a3 a4 a5 a6 a7 a8 a9 a10 : Option V} {r : L2.St} : St (tVar 11 (a0 :: a1 :: a2 :: a3 :: a4 :: a5 :: a6 :: a7 :: a8 :: a9 :: a10 :: some v :: r) H Q) (Q v H) := ⟨g_var11⟩
theorem g_name12 {R : L2.St → Hp → Prop} {a0 a1 a2 a3 a4 a5 a6 a7 a8 a9 a10 a11 : Option V} {b : Option V} {r : L2.St} (h : R (a0 :: a1 :: a2 :: a3 :: a4 :: a5 :: a6 :: a7 :: a8 :: a9 :: a10 :: a11 :: some v :: r) H) : gName 12 v (a0 :: a1 :: a2 :: a3 :: a4 :: a5 :: a6 :: a7 :: a8 :: a9 :: a10 :: a11 :: b :: r) H R := h
instance i_name12 {R : L2.St → Hp → Prop} {a0 a1 a2 a3 a4 a5 a6 a7 a8 a9 a10 a11 : Option V} {b : Option V} {r : L2.St} : St (gName 12 v (a0 :: a1 :: a2 :: a3 :: a4 :: a5 :: a6 :: a7 :: a8 :: a9 :: a10 :: a11 :: b :: r) H R) (R (a0 :: a1 :: a2 :: a3 :: a4 :: a5 :: a6 :: a7 :: a8 :: a9 :: a10 :: a11 :: some v :: r) H) := ⟨g_name12⟩
theorem g_var12 {a0 a1 a2 a3 a4 a5 a6 a7 a8 a9 a10 a11 : Option V} {r : L2.St} (h : Q v H) : tVar 12 (a0 :: a1 :: a2 :: a3 :: a4 :: a5 :: a6 :: a7 :: a8 :: a9 :: a10 :: a11 :: some v :: r) H Q := ⟨v, rfl, h⟩
instance i_var12 {a0 a1 a2 a3 a4 a5 a6 a7 a8 a9 a10 a11 : Option V} {r : L2.St} : St (tVar 12 (a0 :: a1 :: a2 :: a3 :: a4 :: a5 :: a6 :: a7 :: a8 :: a9 :: a10 :: a11 :: some v :: r) H Q) (Q v H) := ⟨g_var12⟩
theorem g_name13 {R : L2.St → Hp → Prop} {a0 a1 a2 a3 a4 a5 a6 a7 a8 a9 a10 a11 a12 : Option V} {b : Option V} {r : L2.St} (h : R (a0 :: a1 :: a2 :: a3 :: a4 :: a5 :: a6 :: a7 :: a8 :: a9 :: a10 :: a11 :: a12 :: some v :: r) H) : gName 13 v (a0 :: a1 :: a2 :: a3 :: a4 :: a5 :: a6 :: a7 :: a8 :: a9 :: a10 :: a11 :: a12 :: b :: r) H R := h
instance i_name13 {R : L2.St → Hp → Prop} {a0 a1 a2 a3 a4 a5 a6 a7 a8 a9 a10 a11 a12 : Option V} {b : Option V} {r : L2.St} : St (gName 13 v (a0 :: a1 :: a2 :: a3 :: a4 :: a5 :: a6 :: a7 :: a8 :: a9 :: a10 :: a11 :: a12 :: b :: r) H R) (R (a0 :: a1 :: a2 :: a3 :: a4 :: a5 :: a6 :: a7 :: a8 :: a9 :: a10 :: a11 :: a12 :: some v :: r) H) := ⟨g_name13⟩
theorem g_var13 {a0 a1 a2 a3 a4 a5 a6 a7 a8 a9 a10 a11 a12 : Option V} {r : L2.St} (h : Q v H) : tVar 13 (a0 :: a1 :: a2 :: a3 :: a4 :: a5 :: a6 :: a7 :: a8 :: a9 :: a10 :: a11 :: a12 :: some v :: r) H Q := ⟨v, rfl, h⟩
instance i_var13 {a0 a1 a2 a3 a4 a5 a6 a7 a8 a9 a10 a11 a12 : Option V} {r : L2.St} : St (tVar 13 (a0 :: a1 :: a2 :: a3 :: a4 :: a5 :: a6 :: a7 :: a8 :: a9 :: a10 :: a11 :: a12 :: some v :: r) H Q) (Q v H) := ⟨g_var13⟩
theorem g_name14 {R : L2.St → Hp → Prop} {a0 a1 a2 a3 a4 a5 a6 a7 a8 a9 a10 a11 a12 a13 : Option V} {b : Option V} {r : L2.St} (h : R (a0 :: a1 :: a2 :: a3 :: a4 :: a5 :: a6 :: a7 :: a8 :: a9 :: a10 :: a11 :: a12 :: a13 :: some v :: r) H) : gName 14 v (a0 :: a1 :: a2 :: a3 :: a4 :: a5 :: a6 :: a7 :: a8 :: a9 :: a10 :: a11 :: a12 :: a13 :: b :: r) H R := h
instance i_name14 {R : L2.St → Hp → Prop} {a0 a1 a2 a3 a4 a5 a6 a7 a8 a9 a10 a11 a12 a13 : Option V} {b : Option V} {r : L2.St} : St (gName 14 v (a0 :: a1 :: a2 :: a3 :: a4 :: a5 :: a6 :: a7 :: a8 :: a9 :: a10 :: a11 :: a12 :: a13 :: b :: r) H R) (R (a0 :: a1 :: a2 :: a3 :: a4 :: a5 :: a6 :: a7 :: a8 :: a9 :: a10 :: a11 :: a12 :: a13 :: some v :: r) H) := ⟨g_name14⟩
theorem g_var14 {a0 a1 a2 a3 a4 a5 a6 a7 a8 a9 a10 a11 a12 a13 : Option V} {r : L2.St} (h : Q v H) : tVar 14 (a0 :: a1 :: a2 :: a3 :: a4 :: a5 :: a6 :: a7 :: a8 :: a9 :: a10 :: a11 :: a12 :: a13 :: some v :: r) H Q := ⟨v, rfl, h⟩
instance i_var14 {a0 a1 a2 a3 a4 a5 a6 a7 a8 a9 a10 a11 a12 a13 : Option V} {r : L2.St} : St (tVar 14 (a0 :: a1 :: a2 :: a3 :: a4 :: a5 :: a6 :: a7 :: a8 :: a9 :: a10 :: a11 :: a12 :: a13 :: some v :: r) H Q) (Q v H) := ⟨g_var14⟩
theorem g_name15 {R : L2.St → Hp → Prop} {a0 a1 a2 a3 a4 a5 a6 a7 a8 a9 a10 a11 a12 a13 a14 : Option V} {b : Option V} {r : L2.St} (h : R (a0 :: a1 :: a2 :: a3 :: a4 :: a5 :: a6 :: a7 :: a8 :: a9 :: a10 :: a11 :: a12 :: a13 :: a14 :: some v :: r) H) : gName 15 v (a0 :: a1 :: a2 :: a3 :: a4 :: a5 :: a6 :: a7 :: a8 :: a9 :: a10 :: a11 :: a12 :: a13 :: a14 :: b :: r) H R := h
instance i_name15 {R : L2.St → Hp → Prop} {a0 a1 a2 a3 a4 a5 a6 a7 a8 a9 a10 a11 a12 a13 a14 : Option V} {b : Option V} {r : L2.St} : St (gName 15 v (a0 :: a1 :: a2 :: a3 :: a4 :: a5 :: a6 :: a7 :: a8 :: a9 :: a10 :: a11 :: a12 :: a13 :: a14 :: b :: r) H R) (R (a0 :: a1 :: a2 :: a3 :: a4 :: a5 :: a6 :: a7 :: a8 :: a9 :: a10 :: a11 :: a12 :: a13 :: a14 :: some v :: r) H) := ⟨g_name15⟩
theorem g_var15 {a0 a1 a2 a3 a4 a5 a6 a7 a8 a9 a10 a11 a12 a13 a14 : Option V} {r : L2.St} (h : Q v H) : tVar 15 (a0 :: a1 :: a2 :: a3 :: a4 :: a5 :: a6 :: a7 :: a8 :: a9 :: a10 :: a11 :: a12 :: a13 :: a14 :: some v :: r) H Q := ⟨v, rfl, h⟩
instance i_var15 {a0 a1 a2 a3 a4 a5 a6 a7 a8 a9 a10 a11 a12 a13 a14 : Option V} {r : L2.St} : St (tVar 15 (a0 :: a1 :: a2 :: a3 :: a4 :: a5 :: a6 :: a7 :: a8 :: a9 :: a10 :: a11 :: a12 :: a13 :: a14 :: some v :: r) H Q) (Q v H) := ⟨g_var15⟩
theorem g_name16 {R : L2.St → Hp → Prop} {a0 a1 a2 a3 a4 a5 a6 a7 a8 a9 a10 a11 a12 a13 a14 a15 : Option V} {b : Option V} {r : L2.St} (h : R (a0 :: a1 :: a2 :: a3 :: a4 :: a5 :: a6 :: a7 :: a8 :: a9 :: a10 :: a11 :: a12 :: a13 :: a14 :: a15 :: some v :: r) H) : gName 16 v (a0 :: a1 :: a2 :: a3 :: a4 :: a5 :: a6 :: a7 :: a8 :: a9 :: a10 :: a11 :: a12 :: a13 :: a14 :: a15 :: b :: r) H R := h
instance i_name16 {R : L2.St → Hp → Prop} {a0 a1 a2 a3 a4 a5 a6 a7 a8 a9 a10 a11 a12 a13 a14 a15 : Option V} {b : Option V} {r : L2.St} : St (gName 16 v (a0 :: a1 :: a2 :: a3 :: a4 :: a5 :: a6 :: a7 :: a8 :: a9 :: a10 :: a11 :: a12 :: a13 :: a14 :: a15 :: b :: r) H R) (R (a0 :: a1 :: a2 :: a3 :: a4 :: a5 :: a6 :: a7 :: a8 :: a9 :: a10 :: a11 :: a12 :: a13 :: a14 :: a15 :: some v :: r) H) := ⟨g_name16⟩
theorem g_var16 {a0 a1 a2 a3 a4 a5 a6 a7 a8 a9 a10 a11 a12 a13 a14 a15 : Option V} {r : L2.St} (h : Q v H) : tVar 16 (a0 :: a1 :: a2 :: a3 :: a4 :: a5 :: a6 :: a7 :: a8 :: a9 :: a10 :: a11 :: a12 :: a13 :: a14 :: a15 :: some v :: r) H Q := ⟨v, rfl, h⟩
instance i_var16 {a0 a1 a2 a3 a4 a5 a6 a7 a8 a9 a10 a11 a12 a13 a14 a15 : Option V} {r : L2.St} : St (tVar 16 (a0 :: a1 :: a2 :: a3 :: a4 :: a5 :: a6 :: a7 :: a8 :: a9 :: a10 :: a11 :: a12 :: a13 :: a14 :: a15 :: some v :: r) H Q) (Q v H) := ⟨g_var16⟩
theorem g_name17 {R : L2.St → Hp → Prop} {a0 a1 a2 a3 a4 a5 a6 a7 a8 a9 a10 a11 a12 a13 a14 a15 a16 : Option V} {b : Option V} {r : L2.St} (h : R (a0 :: a1 :: a2 :: a3 :: a4 :: a5 :: a6 :: a7 :: a8 :: a9 :: a10 :: a11 :: a12 :: a13 :: a14 :: a15 :: a16 :: some v :: r) H) : gName 17 v (a0 :: a1 :: a2 :: a3 :: a4 :: a5 :: a6 :: a7 :: a8 :: a9 :: a10 :: a11 :: a12 :: a13 :: a14 :: a15 :: a16 :: b :: r) H R := h
instance i_name17 {R : L2.St → Hp → Prop} {a0 a1 a2 a3 a4 a5 a6 a7 a8 a9 a10 a11 a12 a13 a14 a15 a16 : Option V} {b : Option V} {r : L2.St} : St (gName 17 v (a0 :: a1 :: a2 :: a3 :: a4 :: a5 :: a6 :: a7 :: a8 :: a9 :: a10 :: a11 :: a12 :: a13 :: a14 :: a15 :: a16 :: b :: r) H R) (R (a0 :: a1 :: a2 :: a3 :: a4 :: a5 :: a6 :: a7 :: a8 :: a9 :: a10 :: a11 :: a12 :: a13 :: a14 :: a15 :: a16 :: some v :: r) H) := ⟨g_name17⟩
theorem g_var17 {a0 a1 a2 a3 a4 a5 a6 a7 a8 a9 a10 a11 a12 a13 a14 a15 a16 : Option V} {r : L2.St} (h : Q v H) : tVar 17 (a0 :: a1 :: a2 :: a3 :: a4 :: a5 :: a6 :: a7 :: a8 :: a9 :: a10 :: a11 :: a12 :: a13 :: a14 :: a15 :: a16 :: some v :: r) H Q := ⟨v, rfl, h⟩
instance i_var17 {a0 a1 a2 a3 a4 a5 a6 a7 a8 a9 a10 a11 a12 a13 a14 a15 a16 : Option V} {r : L2.St} : St (tVar 17 (a0 :: a1 :: a2 :: a3 :: a4 :: a5 :: a6 :: a7 :: a8 :: a9 :: a10 :: a11 :: a12 :: a13 :: a14 :: a15 :: a16 :: some v :: r) H Q) (Q v H) := ⟨g_var17⟩
theorem g_name18 {R : L2.St → Hp → Prop} {a0 a1 a2 a3 a4 a5 a6 a7 a8 a9 a10 a11 a12 a13 a14 a15 a16 a17 : Option V} {b : Option V} {r : L2.St} (h : R (a0 :: a1 :: a2 :: a3 :: a4 :: a5 :: a6 :: a7 :: a8 :: a9 :: a10 :: a11 :: a12 :: a13 :: a14 :: a15 :: a16 :: a17 :: some v :: r) H) : gName 18 v (a0 :: a1 :: a2 :: a3 :: a4 :: a5 :: a6 :: a7 :: a8 :: a9 :: a10 :: a11 :: a12 :: a13 :: a14 :: a15 :: a16 :: a17 :: b :: r) H R := h
instance i_name18 {R : L2.St → Hp → Prop} {a0 a1 a2 a3 a4 a5 a6 a7 a8 a9 a10 a11 a12 a13 a14 a15 a16 a17 : Option V} {b : Option V} {r : L2.St} : St (gName 18 v (a0 :: a1 :: a2 :: a3 :: a4 :: a5 :: a6 :: a7 :: a8 :: a9 :: a10 :: a11 :: a12 :: a13 :: a14 :: a15 :: a16 :: a17 :: b :: r) H R) (R (a0 :: a1 :: a2 :: a3 :: a4 :: a5 :: a6 :: a7 :: a8 :: a9 :: a10 :: a11 :: a12 :: a13 :: a14 :: a15 :: a16 :: a17 :: some v :: r) H) := ⟨g_name18⟩
theorem g_var18 {a0 a1 a2 a3 a4 a5 a6 a7 a8 a9 a10 a11 a12 a13 a14 a15 a16 a17 : Option V} {r : L2.St} (h : Q v H) : tVar 18 (a0 :: a1 :: a2 :: a3 :: a4 :: a5 :: a6 :: a7 :: a8 :: a9 :: a10 :: a11 :: a12 :: a13 :: a14 :: a15 :: a16 :: a17 :: some v :: r) H Q := ⟨v, rfl, h⟩
instance i_var18 {a0 a1 a2 a3 a4 a5 a6 a7 a8 a9 a10 a11 a12 a13 a14 a15 a16 a17 : Option V} {r : L2.St} : St (tVar 18 (a0 :: a1 :: a2 :: a3 :: a4 :: a5 :: a6 :: a7 :: a8 :: a9 :: a10 :: a11 :: a12 :: a13 :: a14 :: a15 :: a16 :: a17 :: some v :: r) H Q) (Q v H) := ⟨g_var18⟩
theorem g_name19 {R : L2.St → Hp → Prop} {a0 a1 a2 a3 a4 a5 a6 a7 a8 a9 a10 a11 a12 a13 a14 a15 a16 a17 a18 : Option V} {b : Option V} {r : L2.St} (h : R (a0 :: a1 :: a2 :: a3 :: a4 :: a5 :: a6 :: a7 :: a8 :: a9 :: a10 :: a11 :: a12 :: a13 :: a14 :: a15 :: a16 :: a17 :: a18 :: some v :: r) H) : gName 19 v (a0 :: a1 :: a2 :: a3 :: a4 :: a5 :: a6 :: a7 :: a8 :: a9 :: a10 :: a11 :: a12 :: a13 :: a14 :: a15 :: a16 :: a17 :: a18 :: b :: r) H R := h
instance i_name19 {R : L2.St → Hp → Prop} {a0 a1 a2 a3 a4 a5 a6 a7 a8 a9 a10 a11 a12 a13 a14 a15 a16 a17 a18 : Option V} {b : Option V} {r : L2.St} : St (gName 19 v (a0 :: a1 :: a2 :: a3 :: a4 :: a5 :: a6 :: a7 :: a8 :: a9 :: a10 :: a11 :: a12 :: a13 :: a14 :: a15 :: a16 :: a17 :: a18 :: b :: r) H R) (R (a0 :: a1 :: a2 :: a3 :: a4 :: a5 :: a6 :: a7 :: a8 :: a9 :: a10 :: a11 :: a12 :: a13 :: a14 :: a15 :: a16 :: a17 :: a18 :: some v :: r) H) := ⟨g_name19⟩
theorem g_var19 {a0 a1 a2 a3 a4 a5 a6 a7 a8 a9 a10 a11 a12 a13 a14 a15 a16 a17 a18 : Option V} {r : L2.St} (h : Q v H) : tVar 19 (a0 :: a1 :: a2 :: a3 :: a4 :: a5 :: a6 :: a7 :: a8 :: a9 :: a10 :: a11 :: a12 :: a13 :: a14 :: a15 :: a16 :: a17 :: a18 :: some v :: r) H Q := ⟨v, rfl, h⟩
instance i_var19 {a0 a1 a2 a3 a4 a5 a6 a7 a8 a9 a10 a11 a12 a13 a14 a15 a16 a17 a18 : Option V} {r : L2.St} : St (tVar 19 (a0 :: a1 :: a2 :: a3 :: a4 :: a5 :: a6 :: a7 :: a8 :: a9 :: a10 :: a11 :: a12 :: a13 :: a14 :: a15 :: a16 :: a17 :: a18 :: some v :: r) H Q) (Q v H) := ⟨g_var19⟩
theorem g_name20 {R : L2.St → Hp → Prop} {a0 a1 a2 a3 a4 a5 a6 a7 a8 a9 a10 a11 a12 a13 a14 a15 a16 a17 a18 a19 : Option V} {b : Option V} {r : L2.St} (h : R (a0 :: a1 :: a2 :: a3 :: a4 :: a5 :: a6 :: a7 :: a8 :: a9 :: a10 :: a11 :: a12 :: a13 :: a14 :: a15 :: a16 :: a17 :: a18 :: a19 :: some v :: r) H) : gName 20 v (a0 :: a1 :: a2 :: a3 :: a4 :: a5 :: a6 :: a7 :: a8 :: a9 :: a10 :: a11 :: a12 :: a13 :: a14 :: a15 :: a16 :: a17 :: a18 :: a19 :: b :: r) H R := h
instance i_name20 {R : L2.St → Hp → Prop} {a0 a1 a2 a3 a4 a5 a6 a7 a8 a9 a10 a11 a12 a13 a14 a15 a16 a17 a18 a19 : Option V} {b : Option V} {r : L2.St} : St (gName 20 v (a0 :: a1 :: a2 :: a3 :: a4 :: a5 :: a6 :: a7 :: a8 :: a9 :: a10 :: a11 :: a12 :: a13 :: a14 :: a15 :: a16 :: a17 :: a18 :: a19 :: b :: r) H R) (R (a0 :: a1 :: a2 :: a3 :: a4 :: a5 :: a6 :: a7 :: a8 :: a9 :: a10 :: a11 :: a12 :: a13 :: a14 :: a15 :: a16 :: a17 :: a18 :: a19 :: some v :: r) H) := ⟨g_name20⟩
theorem g_var20 {a0 a1 a2 a3 a4 a5 a6 a7 a8 a9 a10 a11 a12 a13 a14 a15 a16 a17 a18 a19 : Option V} {r : L2.St} (h : Q v H) : tVar 20 (a0 :: a1 :: a2 :: a3 :: a4 :: a5 :: a6 :: a7 :: a8 :: a9 :: a10 :: a11 :: a12 :: a13 :: a14 :: a15 :: a16 :: a17 :: a18 :: a19 :: some v :: r) H Q := ⟨v, rfl, h⟩
instance i_var20 {a0 a1 a2 a3 a4 a5 a6 a7 a8 a9 a10 a11 a12 a13 a14 a15 a16 a17 a18 a19 : Option V} {r : L2.St} : St (tVar 20 (a0 :: a1 :: a2 :: a3 :: a4 :: a5 :: a6 :: a7 :: a8 :: a9 :: a10 :: a11 :: a12 :: a13 :: a14 :: a15 :: a16 :: a17 :: a18 :: a19 :: some v :: r) H Q) (Q v H) := ⟨g_var20⟩
theorem g_name21 {R : L2.St → Hp → Prop} {a0 a1 a2 a3 a4 a5 a6 a7 a8 a9 a10 a11 a12 a13 a14 a15 a16 a17 a18 a19 a20 : Option V} {b : Option V} {r : L2.St} (h : R (a0 :: a1 :: a2 :: a3 :: a4 :: a5 :: a6 :: a7 :: a8 :: a9 :: a10 :: a11 :: a12 :: a13 :: a14 :: a15 :: a16 :: a17 :: a18 :: a19 :: a20 :: some v :: r) H) : gName 21 v (a0 :: a1 :: a2 :: a3 :: a4 :: a5 :: a6 :: a7 :: a8 :: a9 :: a10 :: a11 :: a12 :: a13 :: a14 :: a15 :: a16 :: a17 :: a18 :: a19 :: a20 :: b :: r) H R := h
instance i_name21 {R : L2.St → Hp → Prop} {a0 a1 a2 a3 a4 a5 a6 a7 a8 a9 a10 a11 a12 a13 a14 a15 a16 a17 a18 a19 a20 : Option V} {b : Option V} {r : L2.St} : St (gName 21 v (a0 :: a1 :: a2 :: a3 :: a4 :: a5 :: a6 :: a7 :: a8 :: a9 :: a10 :: a11 :: a12 :: a13 :: a14 :: a15 :: a16 :: a17 :: a18 :: a19 :: a20 :: b :: r) H R) (R (a0 :: a1 :: a2 :: a3 :: a4 :: a5 :: a6 :: a7 :: a8 :: a9 :: a10 :: a11 :: a12 :: a13 :: a14 :: a15 :: a16 :: a17 :: a18 :: a19 :: a20 :: some v :: r) H) := ⟨g_name21⟩
theorem g_var21 {a0 a1 a2 a3 a4 a5 a6 a7 a8 a9 a10 a11 a12 a13 a14 a15 a16 a17 a18 a19 a20 : Option V} {r : L2.St} (h : Q v H) : tVar 21 (a0 :: a1 :: a2 :: a3 :: a4 :: a5 :: a6 :: a7 :: a8 :: a9 :: a10 :: a11 :: a12 :: a13 :: a14 :: a15 :: a16 :: a17 :: a18 :: a19 :: a20 :: some v :: r) H Q := ⟨v, rfl, h⟩
instance i_var21 {a0 a1 a2 a3 a4 a5 a6 a7 a8 a9 a10 a11 a12 a13 a14 a15 a16 a17 a18 a19 a20 : Option V} {r : L2.St} : St (tVar 21 (a0 :: a1 :: a2 :: a3 :: a4 :: a5 :: a6 :: a7 :: a8 :: a9 :: a10 :: a11 :: a12 :: a13 :: a14 :: a15 :: a16 :: a17 :: a18 :: a19 :: a20 :: some v :: r) H Q) (Q v H) := ⟨g_var21⟩
theorem g_name22 {R : L2.St → Hp → Prop} {a0 a1 a2 a3 a4 a5 a6 a7 a8 a9 a10 a11 a12 a13 a14 a15 a16 a17 a18 a19 a20 a21 : Option V} {b : Option V} {r : L2.St} (h : R (a0 :: a1 :: a2 :: a3 :: a4 :: a5 :: a6 :: a7 :: a8 :: a9 :: a10 :: a11 :: a12 :: a13 :: a14 :: a15 :: a16 :: a17 :: a18 :: a19 :: a20 :: a21 :: some v :: r) H) : gName 22 v (a0 :: a1 :: a2 :: a3 :: a4 :: a5 :: a6 :: a7 :: a8 :: a9 :: a10 :: a11 :: a12 :: a13 :: a14 :: a15 :: a16 :: a17 :: a18 :: a19 :: a20 :: a21 :: b :: r) H R := h
instance i_name22 {R : L2.St → Hp → Prop} {a0 a1 a2 a3 a4 a5 a6 a7 a8 a9 a10 a11 a12 a13 a14 a15 a16 a17 a18 a19 a20 a21 : Option V} {b : Option V} {r : L2.St} : St (gName 22 v (a0 :: a1 :: a2 :: a3 :: a4 :: a5 :: a6 :: a7 :: a8 :: a9 :: a10 :: a11 :: a12 :: a13 :: a14 :: a15 :: a16 :: a17 :: a18 :: a19 :: a20 :: a21 :: b :: r) H R) (R (a0 :: a1 :: a2 :: a3 :: a4 :: a5 :: a6 :: a7 :: a8 :: a9 :: a10 :: a11 :: a12 :: a13 :: a14 :: a15 :: a16 :: a17 :: a18 :: a19 :: a20 :: a21 :: some v :: r) H) := ⟨g_name22⟩
theorem g_var22 {a0 a1 a2 a3 a4 a5 a6 a7 a8 a9 a10 a11 a12 a13 a14 a15 a16 a17 a18 a19 a20 a21 : Option V} {r : L2.St} (h : Q v H) : tVar 22 (a0 :: a1 :: a2 :: a3 :: a4 :: a5 :: a6 :: a7 :: a8 :: a9 :: a10 :: a11 :: a12 :: a13 :: a14 :: a15 :: a16 :: a17 :: a18 :: a19 :: a20 :: a21 :: some v :: r) H Q := ⟨v, rfl, h⟩
instance i_var22 {a0 a1 a2 a3 a4 a5 a6 a7 a8 a9 a10 a11 a12 a13 a14 a15 a16 a17 a18 a19 a20 a21 : Option V} {r : L2.St} : St (tVar 22 (a0 :: a1 :: a2 :: a3 :: a4 :: a5 :: a6 :: a7 :: a8 :: a9 :: a10 :: a11 :: a12 :: a13 :: a14 :: a15 :: a16 :: a17 :: a18 :: a19 :: a20 :: a21 :: some v :: r) H Q) (Q v H) := ⟨g_var22⟩
theorem g_name23 {R : L2.St → Hp → Prop} {a0 a1 a2 a3 a4 a5 a6 a7 a8 a9 a10 a11 a12 a13 a14 a15 a16 a17 a18 a19 a20 a21 a22 : Option V} {b : Option V} {r : L2.St} (h : R (a0 :: a1 :: a2 :: a3 :: a4 :: a5 :: a6 :: a7 :: a8 :: a9 :: a10 :: a11 :: a12 :: a13 :: a14 :: a15 :: a16 :: a17 :: a18 :: a19 :: a20 :: a21 :: a22 :: some v :: r) H) : gName 23 v (a0 :: a1 :: a2 :: a3 :: a4 :: a5 :: a6 :: a7 :: a8 :: a9 :: a10 :: a11 :: a12 :: a13 :: a14 :: a15 :: a16 :: a17 :: a18 :: a19 :: a20 :: a21 :: a22 :: b :: r) H R := h
instance i_name23 {R : L2.St → Hp → Prop} {a0 a1 a2 a3 a4 a5 a6 a7 a8 a9 a10 a11 a12 a13 a14 a15 a16 a17 a18 a19 a20 a21 a22 : Option V} {b : Option V} {r : L2.St} : St (gName 23 v (a0 :: a1 :: a2 :: a3 :: a4 :: a5 :: a6 :: a7 :: a8 :: a9 :: a10 :: a11 :: a12 :: a13 :: a14 :: a15 :: a16 :: a17 :: a18 :: a19 :: a20 :: a21 :: a22 :: b :: r) H R) (R (a0 :: a1 :: a2 :: a3 :: a4 :: a5 :: a6 :: a7 :: a8 :: a9 :: a10 :: a11 :: a12 :: a13 :: a14 :: a15 :: a16 :: a17 :: a18 :: a19 :: a20 :: a21 :: a22 :: some v :: r) H) := ⟨g_name23⟩
theorem g_var23 {a0 a1 a2 a3 a4 a5 a6 a7 a8 a9 a10 a11 a12 a13 a14 a15 a16 a17 a18 a19 a20 a21 a22 : Option V} {r : L2.St} (h : Q v H) : tVar 23 (a0 :: a1 :: a2 :: a3 :: a4 :: a5 :: a6 :: a7 :: a8 :: a9 :: a10 :: a11 :: a12 :: a13 :: a14 :: a15 :: a16 :: a17 :: a18 :: a19 :: a20 :: a21 :: a22 :: some v :: r) H Q := ⟨v, rfl, h⟩
instance i_var23 {a0 a1 a2 a3 a4 a5 a6 a7 a8 a9 a10 a11 a12 a13 a14 a15 a16 a17 a18 a19 a20 a21 a22 : Option V} {r : L2.St} : St (tVar 23 (a0 :: a1 :: a2 :: a3 :: a4 :: a5 :: a6 :: a7 :: a8 :: a9 :: a10 :: a11 :: a12 :: a13 :: a14 :: a15 :: a16 :: a17 :: a18 :: a19 :: a20 :: a21 :: a22 :: some v :: r) H Q) (Q v H) := ⟨g_var23⟩
end
theorem ne_nn {H : Hp} {a b : Addr} {o : HO} (h' : H b = none) (h : H a = some o) : a ≠ b := ne_of_none h h'
def kd : HO → Nat
  | .lst _ => 0 | .tup _ => 1 | .dK _ => 2 | .dT _ => 3 | .set _ _ => 4 | .ins _ _ _ => 5 | .own _ => 6 | .xd _ => 7 | .met _ _ => 8 | .rng _ _ => 9 | .frz _ _ => 10 | .tbl _ => 11 | .ext _ => 12
theorem ne_kd {H : Hp} {a b : Addr} {o u : HO} (h : H a = some o) (h' : H b = some u) (d : Nat.beq (kd o) (kd u) = false) : a ≠ b := ne_of h h' fun z => by
  rw [z] at d
  simp at d
theorem ntb {o : HO} (d : Nat.beq (kd o) 11 = false) : ∀ ps, o ≠ .tbl ps := fun ps z => by
  rw [z] at d
  exact absurd d (show ¬ (Nat.beq 11 11 = false) by decide)
theorem Kp.look {S : List Addr} {H H' : Hp} {p : Addr} {o : HO} (k : Kp S H H') (n : p ∉ S) (h : H p = some o) (t : ∀ ps, o ≠ .tbl ps) : H' p = some o := k.keep p o n h t
theorem nin1 {a b : Addr} (h : b ≠ a) : b ∉ [a] := fun z => h (by cases z with | head => rfl | tail _ z => cases z)
theorem nin0 {b : Addr} : b ∉ ([] : List Addr) := fun z => nomatch z
theorem nin2 {a c b : Addr} (h : b ≠ a) (h' : b ≠ c) : b ∉ [a, c] := fun z => by
  cases z with
  | head => exact h rfl
  | tail _ z => exact nin1 h' z
theorem ite_tt {A B : Prop} (h : A) : if true = true then A else B := by rw [if_pos rfl]; exact h
theorem ite_ff {A B : Prop} (h : B) : if false = true then A else B := by rw [if_neg Bool.false_ne_true]; exact h
theorem ite_dd {c A B : Prop} [Decidable c] (h1 : c → A) (h2 : ¬ c → B) : if decide c = true then A else B := by
  by_cases h : c
  · rw [if_pos (decide_eq_true h)]; exact h1 h
  · rw [if_neg (by rw [decide_eq_false h]; exact Bool.false_ne_true)]; exact h2 h
theorem ite_nd {c A B : Prop} [Decidable c] (h1 : ¬ c → A) (h2 : c → B) : if (!decide c) = true then A else B := by
  by_cases h : c
  · rw [if_neg (by rw [decide_eq_true h]; exact Bool.false_ne_true)]; exact h2 h
  · rw [if_pos (by rw [decide_eq_false h]; rfl)]; exact h1 h
theorem ite_bb {b : Bool} {A B : Prop} (h1 : b = true → A) (h2 : b = false → B) : if b = true then A else B := by
  cases b with
  | true => exact ite_tt (h1 rfl)
  | false => exact ite_ff (h2 rfl)
theorem ite_P {b : Bool} {A B : Prop} (e : b = true) (h : A) : if b = true then A else B := by rw [if_pos e]; exact h
theorem ite_N {b : Bool} {A B : Prop} (e : b = false) (h : B) : if b = true then A else B := by rw [if_neg (by rw [e]; exact Bool.false_ne_true)]; exact h
end Ap
namespace Ap
open PySem L2
def kWn (Pv : L2.St → Hp → Prop) (μ : L2.St → Hp → Nat) (n : Nat) (tb : TS) (D : Ends) (σ : L2.St) : Hp → Prop := fun H1 =>
  ∃ N : L2.St → Hp → Prop, (∀ σ' H', N σ' H' → ∃ m', m' < n ∧ (m' = μ σ' H' ∧ Pv σ' H')) ∧ tb { D with nx := N, ct := N, bk := D.nx } σ H1
theorem g_kWn {Pv : L2.St → Hp → Prop} {μ : L2.St → Hp → Nat} {n : Nat} {tb : TS} {D : Ends} {σ : L2.St} {H : Hp}
    (h : tb ⟨fun σ' H' => Pv σ' H' ∧ μ σ' H' < n, D.rt, D.nx, fun σ' H' => Pv σ' H' ∧ μ σ' H' < n⟩ σ H) : kWn Pv μ n tb D σ H :=
  ⟨fun σ' H' => Pv σ' H' ∧ μ σ' H' < n, fun _ _ q => ⟨_, q.2, rfl, q.1⟩, h⟩
instance i_kWn {Pv : L2.St → Hp → Prop} {μ : L2.St → Hp → Nat} {n : Nat} {tb : TS} {D : Ends} {σ : L2.St} {H : Hp} : St (kWn Pv μ n tb D σ H) (tb ⟨fun σ' H' => Pv σ' H' ∧ μ σ' H' < n, D.rt, D.nx, fun σ' H' => Pv σ' H' ∧ μ σ' H' < n⟩ σ H) := ⟨g_kWn⟩
/-- a while, by what holds ahead of its test and a number that falls -/
theorem g_whl {tt : TT} {tb : TS} {D : Ends} {σ : L2.St} {H : Hp} (Pv : L2.St → Hp → Prop) (μ : L2.St → Hp → Nat) (h0 : Pv σ H)
    (hs : ∀ σ H, Pv σ H → tt σ H (kIf (kWn Pv μ (μ σ H) tb D σ) (D.nx σ))) : tWhile tt tb D σ H :=
  ⟨fun m σ H => m = μ σ H ∧ Pv σ H, ⟨_, rfl, h0⟩, fun m σ H ⟨e, p⟩ => by subst e; exact hs σ H p⟩
end Ap
namespace Ap
open PySem L2
theorem g_cut {t u : TS} {D : Ends} {σ : L2.St} {H : Hp} (Mid : L2.St → Hp → Prop) (h1 : t ⟨Mid, D.rt, D.bk, D.ct⟩ σ H) (h2 : ∀ σ' H', Mid σ' H' → u D σ' H') : Evl.tCut t u D σ H := ⟨Mid, h1, h2⟩
end Ap
namespace Ap
open PySem L2
section
variable {K : PySem.W.Frag} {σ : L2.St} {H : Hp} {Q : VK} {x : V} {te : TE} {tl th : TO} {i : Int} {lo hi : Option Int}
abbrev SlF := V → Option Int → Option Int → Hp → VK → Prop
abbrev OK := Option Int → Hp → Prop
def kSl1 (r : SlF) (tl th : TO) (σ : L2.St) (Q : VK) : VK := fun x H1 => tl σ H1 fun l H2 => th σ H2 fun u H3 => r x l u H3 Q
def kSl2 (r : SlF) (th : TO) (x : V) (σ : L2.St) (Q : VK) : OK := fun l H2 => th σ H2 fun u H3 => r x l u H3 Q
def kSl3 (r : SlF) (x : V) (lo : Option Int) (Q : VK) : OK := fun u H3 => r x lo u H3 Q
def kPa (R : OK) : VK := fun x H1 => ∃ i, x = .int i ∧ R (some i) H1
instance i_sl {r : SlF} : St (tSl r te tl th σ H Q) (te σ H (kSl1 r tl th σ Q)) := ⟨id⟩
instance i_kSl1 {r : SlF} : St (kSl1 r tl th σ Q x H) (tl σ H (kSl2 r th x σ Q)) := ⟨id⟩
instance i_kSl2 {r : SlF} : St (kSl2 r th x σ Q lo H) (th σ H (kSl3 r x lo Q)) := ⟨id⟩
instance i_kSl3 {r : SlF} : St (kSl3 r x lo Q hi H) (r x lo hi H Q) := ⟨id⟩
instance i_noPart {R : OK} : St (tNoPart σ H R) (R none H) := ⟨id⟩
instance i_part {R : OK} : St (tPart te σ H R) (te σ H (kPa R)) := ⟨id⟩
instance i_kPa {R : OK} : St (kPa R (.int i) H) (R (some i) H) := ⟨fun h => ⟨i, rfl, h⟩⟩
theorem g_slL {p : Addr} {xs : List V} (e : H p = some (.lst xs)) (h : ∀ q, H q = none → Q (.ref q) (upd H q (.lst (cutV xs lo hi)))) : rSlL K (.ref p) lo hi H Q := ⟨p, xs, rfl, SqL.of e, h⟩
end
theorem cut_to {xs : List V} {k : Nat} {i : Int} (e : i = (k : Int)) (h : k ≤ xs.length) : cutV xs none (some i) = xs.take k := by
  subst e
  unfold cutV
  rw [HT.sIx_none, HT.sIx_nat, List.drop_zero, Nat.min_eq_left h, Nat.sub_zero]
theorem cut_from {xs : List V} {k : Nat} {i : Int} (e : i = (k : Int)) : cutV xs (some i) none = xs.drop k := by
  subst e
  unfold cutV
  rw [HT.sIx_none, HT.sIx_nat]
  by_cases h : k ≤ xs.length
  · rw [Nat.min_eq_left h, List.take_of_length_le (by rw [List.length_drop]; omega)]
  · rw [Nat.min_eq_right (by omega), List.drop_eq_nil_of_le (Nat.le_refl _), List.drop_eq_nil_of_le (by omega)]; simp
end Ap


/-! KG: defs whose callers are not within a repr (what repr asks); the law's end over them. -/
namespace Ap
open PySem L2 PySem.Spec PyProof.Rows
section
variable (P : Program) (w : World) (K : PySem.W.Frag) (mg : Str → Option Value) (base : Heap) (CX : CXT)
/-- as FnOk, at calls around which no repr runs -/
structure FnG (k : Nat) (f : Addr) (fd : FuncData) (ps : List Str) (sp : Sp) : Prop where
  len : ∀ vs H Q E, sp vs H Q E → vs.length = ps.length
  go : ∀ (B : Around) (outs : List Env) (s : Shared) (H : Hp) (args : Args) (us : List Value) (vs : List V) (Q : VK) (E : XK), Room k B → B.guards = some [] →
    Env0 P w K mg base B outs s H → BindsTo s fd args (ps.zip us) → Vals vs us → sp vs H Q E → codeAny (model P w) B (.call (.ref f) args) (CR CX outs P w H s Q E) s
end
section
variable {P : Program} {w : World} {K : PySem.W.Frag} {mg : Str → Option Value} {base : Heap} {CX : CXT} {k : Nat} {f : Addr} {fd : FuncData} {ps : List Str} {sp : Sp}
theorem FnG.of (F : FnOk P w K mg base CX k f fd ps sp) : FnG P w K mg base CX k f fd ps sp := ⟨F.len, fun B outs s H args us vs Q E hr _ => F.run B outs s H args us vs Q E hr⟩
theorem FnG.mono {j : Nat} (F : FnG P w K mg base CX j f fd ps sp) (h : j ≤ k) : FnG P w K mg base CX k f fd ps sp :=
  ⟨F.len, fun B outs s H args us vs Q E hr => F.go B outs s H args us vs Q E (hr.mono h)⟩
theorem FnG.imp {sp' : Sp} (F : FnG P w K mg base CX k f fd ps sp) (h : ∀ vs H Q E, sp' vs H Q E → sp vs H Q E) : FnG P w K mg base CX k f fd ps sp' :=
  ⟨fun vs H Q E q => F.len vs H Q E (h vs H Q E q), fun B outs s H args us vs Q E hr hg e b r q => F.go B outs s H args us vs Q E hr hg e b r (h vs H Q E q)⟩
theorem _root_.L2.Room.u1 {k : Nat} {A : Around} (r : Room k A) : A.units + 1 < cLine := by have := r.un; omega
theorem _root_.L2.Room.u64 {k : Nat} {A : Around} (r : Room k A) : A.units + 64 < cLine := by have := r.un; omega
/-- a def by its body -/
theorem fnG_of {x qual : Str} {st : Stmt} {N : List Str} (F : Fun K x qual st f fd) (S : FnScope N ps (defScope st)) (len : ∀ vs H Q E, sp vs H Q E → vs.length = ps.length)
    (body : ∀ (cdv : Value) (B : Around) (outs : List Env) (s : Shared) (H : Hp) (vs : List V) (Q : VK) (E : XK), fd.code = cdv → Room k (B.deeper (envOfC qual (defScope st) s.heap.objs.size f cdv)) → B.guards = some [] → sp vs H Q E →
      ∃ t, PSs (cxOf CX P w K mg base N qual (defScope st) f cdv B outs s H E) (defBody st) t ∧ t ⟨fun _ H' => Q .non H', Q, fun _ _ => False, fun _ _ => False⟩ (start N vs) H) :
    FnG P w K mg base CX (k + 1) f fd ps sp := by
  obtain ⟨oc, od, kV, doc, pm, an, cdv, ct, osl, rfl, lk, hcd⟩ := F.ex
  refine ⟨len, fun B outs s H args us vs Q E hr hg e0 hb rv hsp => ?_⟩
  have ln := len vs H Q E hsp
  have kin : K.In s.heap := e0.mod.kin.keeps fun b o e => (e0.bs b o e).1
  refine codeAny_call_function hr.depth (kin f _ lk) rfl S.co S.gen rfl (PySem.W.codeRec_of kin hcd) (hb _ _ _ _ ?_)
  refine wpAny_newFunctionEnv_cells S.kind (fun y hy => ?_) fun env he s1 inc => ?_
  · rcases S.par y.1 (List.of_mem_zip (show (y.1, y.2) ∈ ps.zip us from hy)).1 with q | q
    · exact .inl q
    · exact .inr ⟨q, PySem.W.cellsFrom_some _ _ _ (.inl q)⟩
  · subst he
    refine ⟨(e0.mod.nolimit.keeps fun b o e => (e0.bs b o e).1).keeps inc.toInCall.keep, codeAny_func ?_⟩
    obtain ⟨t, ht, hq⟩ := body cdv B outs s H vs Q E rfl (hr.deeper _) hg hsp
    have I0 := inv_start (CX := CX) (E := E) (K := K) (cd := cdv) (f := f) S hr.hd e0 ln rv inc
    refine wpAny_mono (ht.run [] s1 (start N vs) H _ I0 hq) (fun fl s2 hs => ?_) fun _ _ hs => hs
    cases fl with
    | ret u =>
      obtain ⟨v, σ', H', J, r', q⟩ := hs
      exact ⟨v, H', J.os, J.bare, J.base, J.hok, r', q⟩
    | next =>
      obtain ⟨σ', H', J, q⟩ := hs
      exact ⟨.non, H', J.os, J.bare, J.base, J.hok, rfl, q⟩
    | brk =>
      obtain ⟨_, _, _, z⟩ := hs
      exact z.elim
    | cont =>
      obtain ⟨_, _, _, z⟩ := hs
      exact z.elim
/-- the same where nothing that is raised leaves it -/
theorem fnG_of0 {x qual : Str} {st : Stmt} {N : List Str} (F : Fun K x qual st f fd) (S : FnScope N ps (defScope st)) (len : ∀ vs H Q E, sp vs H Q E → vs.length = ps.length)
    (body : ∀ (cdv : Value) (B : Around) (outs : List Env) (s : Shared) (H : Hp) (vs : List V) (Q : VK) (E : XK), fd.code = cdv → Room k (B.deeper (envOfC qual (defScope st) s.heap.objs.size f cdv)) → B.guards = some [] → sp vs H Q E →
      ∃ t, PSs (cxOf CX0 P w K mg base N qual (defScope st) f cdv B outs s H E).nox (defBody st) t ∧ t ⟨fun _ H' => Q .non H', Q, fun _ _ => False, fun _ _ => False⟩ (start N vs) H) :
    FnG P w K mg base CX0 (k + 1) f fd ps sp := fnG_of F S len fun cdv B outs s H vs Q E hc hr hg hsp => by
  obtain ⟨t, ht, hq⟩ := body cdv B outs s H vs Q E hc hr hg hsp
  exact ⟨t, ht.nox, hq⟩
end
section
variable {X : Cx} {CX : CXT} {k : Nat} {f : Addr} {fd : FuncData} {ps : List Str} {sp : Sp} {dvs : List V} {ds : List Value} {E : XK} {x : Str} {p pos : Pos} {e : Expr} {es : List Expr} {t : TA}
theorem run_g {pins : List (Addr × Obj)} {σ : L2.St} {H : Hp} {s : Shared} {Q : VK} {us : List Value} {vs : List V} (F : FnG X.prog X.w X.K X.mg X.base CX k f fd ps sp) (hr : Room k X.A) (gd : X.A.guards = some []) (hb : Binds X.K fd ps ds) (hd : Vals dvs ds) (hx : Passes CX X E)
    (I : Inv X pins σ H s) (r : Vals vs us) (h : sp (vs ++ dvs) H Q E) : wpAny (model X.prog X.w) X.A (call (.ref f) us) (EP X pins σ Q) X.xe s := by
  have rr : Vals (vs ++ dvs) (us ++ ds) := r.append hd
  have ln : (us ++ ds).length = ps.length := rr.length.symm.trans (F.len _ _ _ _ h)
  refine wpAny_call (codeAny_mono (F.go X.A X.stack s H ⟨us, []⟩ (us ++ ds) (vs ++ dvs) Q E hr gd I.env0 (hb s us I.kIn ln) rr h) fun res s2 hq => ?_)
  match res, hq with
  | .error e, hq => exact hx pins σ H s e s2 I hq
  | .ok (.ret u), hq => exact I.after hq
  | .ok .next, hq => exact False.elim hq
  | .ok .brk, hq => exact False.elim hq
  | .ok .cont, hq => exact False.elim hq
/-- f(e, ..) -/
theorem pe_callG (F : FnG X.prog X.w X.K X.mg X.base CX k f fd ps sp) (hr : Room k X.A) (gd : X.A.guards = some []) (hg : Gl X x) (hm : X.mg x = some (.ref f)) (hk : PySem.W.keepIn X.K (.ref f) = true) (hb : Binds X.K fd ps ds) (hd : Vals dvs ds) (hx : Passes CX X E)
    (ha : PA X (e :: es) t) (hdb : (x == ("__debug__" : Str)) = false := by decide) (he : starEach (e :: es) X.env = (false, eval e X.env) :: starEach es X.env := by rfl)
    (hpl : (backTo pos (starEach es X.env)).any (·.1) = false := by rfl) : PE X (.Call (.Name x p) (e :: es) [] pos) (tCall sp dvs E t) :=
  ⟨fun pins s σ H Q I h => wpAny_Call_Name_kw (ld_glob I hg hm (PySem.W.callWith_K (h₀ := X.base) I.ok.mod.kin hk
    (thn (ha.run pos pins s σ H _ I h) fun us s1 ⟨vs, H1, I1, r, q⟩ => ⟨I1.kIn, run_g F hr gd hb hd hx I1 r q⟩) he hpl) hdb)⟩
theorem pe_callG0 (F : FnG X.prog X.w X.K X.mg X.base CX k f fd ps sp) (hr : Room k X.A) (gd : X.A.guards = some []) (hg : Gl X x) (hm : X.mg x = some (.ref f)) (hk : PySem.W.keepIn X.K (.ref f) = true) (hb : Binds X.K fd ps ds) (hd : Vals dvs ds) (hx : Passes CX X E)
    (hdb : (x == ("__debug__" : Str)) = false := by decide) : PE X (.Call (.Name x p) [] [] pos) (tCall sp dvs E tNil) :=
  ⟨fun pins s σ H Q I h => wpAny_Call_Name_kw (ld_glob I hg hm (PySem.W.callWith_K0 I.kIn hk (run_g (us := []) F hr gd hb hd hx I .nil h)) hdb)⟩
/-- f(k=e, ..): keywords alone; g tells the parameters' order -/
theorem run_gk {ks : List Str} {g : List Value → List Value → List Value} {gV : List V → List V → List V} {pins : List (Addr × Obj)} {σ : L2.St} {H : Hp} {s : Shared} {Q : VK} {us ws : List Value} {vs zs : List V} (F : FnG X.prog X.w X.K X.mg X.base CX k f fd ps sp) (hr : Room k X.A) (gd : X.A.guards = some []) (hb : KBinds X.K fd ps ks g gV) (hx : Passes CX X E)
    (I : Inv X pins σ H s) (r : Vals vs us) (rz : Vals zs ws) (h : sp (gV vs zs) H Q E) : wpAny (model X.prog X.w) X.A (call (.ref f) us (ks.zip ws)) (EP X pins σ Q) X.xe s := by
  have rr := hb.rel r rz
  have ln : (g us ws).length = ps.length := rr.length.symm.trans (F.len _ _ _ _ h)
  refine wpAny_call (codeAny_mono (F.go X.A X.stack s H ⟨us, ks.zip ws⟩ (g us ws) (gV vs zs) Q E hr gd I.env0 (hb.to s us ws I.kIn ln) rr h) fun res s2 hq => ?_)
  match res, hq with
  | .error e, hq => exact hx pins σ H s e s2 I hq
  | .ok (.ret u), hq => exact I.after hq
  | .ok .next, hq => exact False.elim hq
  | .ok .brk, hq => exact False.elim hq
  | .ok .cont, hq => exact False.elim hq
end
end Ap
namespace Ap
open PySem L2 PySem.Spec PyProof.Rows
section
variable {X : Cx} {CX : CXT} {k : Nat} {f : Addr} {fd : FuncData} {ps ks : List Str} {sp : Sp} {E : XK} {x : Str} {p pos : Pos} {g : List Value → List Value → List Value} {gV : List V → List V → List V} {kws : List Keyword} {tk : TA}
def tKw (sp : Sp) (gV : List V → List V → List V) (E : XK) (tk : TA) : TE := fun σ H Q => tk σ H fun zs H2 => sp (gV [] zs) H2 Q E
/-- f(k=e, ..), keywords alone -/
theorem pe_callGK (F : FnG X.prog X.w X.K X.mg X.base CX k f fd ps sp) (hr : Room k X.A) (gd : X.A.guards = some []) (hg : Gl X x) (hm : X.mg x = some (.ref f)) (hk : PySem.W.keepIn X.K (.ref f) = true) (hb : KBinds X.K fd ps ks g gV) (hx : Passes CX X E) (hkw : PK X kws tk)
    (hall : (backToKw pos (keywordEach kws X.env)).all (·.1.isSome) = true := by rfl) (hks : (backToKw pos (keywordEach kws X.env)).filterMap (·.1) = ks := by rfl) (hdb : (x == ("__debug__" : Str)) = false := by decide)
    (hpl : ((backTo pos (starEach [] X.env)).any (·.1) || (backToKw pos (keywordEach kws X.env)).any (·.1.isNone)) = false := by rfl) : PE X (.Call (.Name x p) [] kws pos) (tKw sp gV E tk) := by
  refine ⟨fun pins s σ H Q I h => wpAny_Call_Name_kw (ld_glob I hg hm (PySem.W.callWith_KW0 (h₀ := X.base) I.ok.mod.kin hk hall ?_ hpl) hdb)⟩
  refine thn (hkw.run pos pins s σ H _ I h) fun ws s2 ⟨zs, H2, I2, rz, q2⟩ => ⟨I2.kIn, ?_⟩
  rw [hks]
  exact run_gk (us := []) (vs := []) F hr gd hb hx I2 .nil rz q2
def kKw (sp : Sp) (gV : List V → List V → List V) (E : XK) (Q : VK) : LK := fun zs H2 => sp (gV [] zs) H2 Q E
theorem g_kw {σ : L2.St} {H : Hp} {Q : VK} (h : tk σ H (kKw sp gV E Q)) : tKw sp gV E tk σ H Q := h
instance i_kw {σ : L2.St} {H : Hp} {Q : VK} : St (tKw sp gV E tk σ H Q) (tk σ H (kKw sp gV E Q)) := ⟨g_kw⟩
instance i_kKw {H : Hp} {Q : VK} {zs : List V} : St (kKw sp gV E Q zs H) (sp (gV [] zs) H Q E) := ⟨fun h => h⟩
theorem g_kKw {H : Hp} {Q : VK} {zs : List V} (h : sp (gV [] zs) H Q E) : kKw sp gV E Q zs H := h
end
/-- two keywords in the other order -/
def sw2 {α : Type} : List α → List α → List α := fun us ws => match us, ws with
  | [], [a, b] => [b, a]
  | _, _ => []
/-- one keyword -/
def sw1 {α : Type} : List α → List α → List α := fun us ws => match us, ws with
  | [], [a] => [a]
  | _, _ => []
theorem kb_sw2 {K : PySem.W.Frag} {x qual : Str} {st : Stmt} {f : Addr} {fd : FuncData} {p q : Str} (F : Fun K x qual st f fd)
    (h : ∀ (kV doc pm : Value) (an : Option Addr) (cdv ct a b : Value), bindArgs (PySem.W.fnOf x qual (defArgs st) (defBody st) (defScope st) .none kV doc pm an cdv ct) ⟨[], [(q, a), (p, b)]⟩ = pure [(p, b), (q, a)]) : KBinds K fd [p, q] [q, p] sw2 sw2 := by
  obtain ⟨oc, od, kV, doc, pm, an, cdv, ct, osl, rfl, lk, hcd⟩ := F.ex
  refine ⟨fun s us ws _ hl => ?_, fun {vs us zs ws} r1 r2 => ?_⟩
  · match us, ws, hl with
    | [], [a, b], _ => exact .of_eq (h _ _ _ _ _ _ a b)
  · cases r1 with
    | cons _ _ => exact .nil
    | nil =>
      cases r2 with
      | nil => exact .nil
      | cons a r2 =>
        cases r2 with
        | nil => exact .nil
        | cons b r2 =>
          cases r2 with
          | nil => exact .cons b (.cons a .nil)
          | cons _ _ => exact .nil
theorem kb_sw1 {K : PySem.W.Frag} {x qual : Str} {st : Stmt} {f : Addr} {fd : FuncData} {p : Str} (F : Fun K x qual st f fd)
    (h : ∀ (kV doc pm : Value) (an : Option Addr) (cdv ct a : Value), bindArgs (PySem.W.fnOf x qual (defArgs st) (defBody st) (defScope st) .none kV doc pm an cdv ct) ⟨[], [(p, a)]⟩ = pure [(p, a)]) : KBinds K fd [p] [p] sw1 sw1 := by
  obtain ⟨oc, od, kV, doc, pm, an, cdv, ct, osl, rfl, lk, hcd⟩ := F.ex
  refine ⟨fun s us ws _ hl => ?_, fun {vs us zs ws} r1 r2 => ?_⟩
  · match us, ws, hl with
    | [], [a], _ => exact .of_eq (h _ _ _ _ _ _ a)
  · cases r1 with
    | cons _ _ => exact .nil
    | nil =>
      cases r2 with
      | nil => exact .nil
      | cons a r2 =>
        cases r2 with
        | nil => exact .cons a .nil
        | cons b r2 => exact .nil

/-! ### the end -/
/-- the heap that the law's call is entered with: the script at a, the tables (their places in ts), nothing else -/
def H0 (a : Addr) (o : Obj) (ns : List Int) (scr : Bool) (ts : List Addr) : Hp := fun b => if b = a then (if scr = true then some (.frz o (.lst (ns.map V.int))) else none) else if b ∈ ts then some (.tbl #[]) else none
theorem law_go {P : Program} {w : World} {K : PySem.W.Frag} {mg mb : Str → Option Value} {CX : CXT} {k : Nat} {fa a : Addr} {fd : FuncData} {x : Str} {sp : Sp} {s₁ : Shared} {vs : List Value} {ns : List Int} {cs : List (Addr × Addr)} {q : Program} {loose : List Str} {mean : ExcName → Option Value}
    (KX : K.In s₁.heap) (T : PyProof.Rows.Top q loose mean mg mb s₁.heap) (noG : s₁.gens = #[])
    (hT : ∀ p ∈ cs, PySem.W.CodeHd s₁.heap p.1 p.2 ∧ s₁.heap.get? p.2 = some { cls := .none, data := .fields #[] }) (nT : ∀ p ∈ cs, K.lookup p.2 = none)
    (ha : s₁.heap.get? a = some { cls := .type "list", data := .seq vs.toArray }) (hi : IntsAre vs ns) (hl : ns.length ≤ sizeLine) (hr : Room k callerA)
    (F : ∀ base : Heap, K.In base → base.Ns mainGlobals mg → (∀ p ∈ cs, GxR.TabB base mg p.1 p.2) → FnG P w K mg base CX k fa fd [x] sp) (hbind : ∀ (s : Shared) (u : Value), BindsTo s fd ⟨[u], []⟩ [(x, u)])
    (hsp : ∀ H : Hp, (∀ p ∈ cs, H p.2 = some (.tbl #[])) → SqL K H a (ns.map V.int) → sp [.ref a] H (fun v _ => v = .bl true) fun _ _ _ => False)
    (hCX : ∀ H e s', CX [] H s₁ (fun _ _ _ => False) e s' → False) :
    codeAny (model P w) callerA (.call (.ref fa) ⟨[.ref a], []⟩) (fun r s' => r = .ok (.ret (.bool true)) ∧ OldK s₁.heap s'.heap ∧ s'.os = s₁.os ∧ AllBare s'.gens) s₁ := by
  generalize ho : ({ cls := .type "list", data := .seq vs.toArray } : Obj) = o at ha
  have vals := vals_ints hi
  have inT : ∀ b, b ∈ cs.map (·.2) → ∃ p ∈ cs, p.2 = b := fun b hb => by
    obtain ⟨p, hp, e⟩ := List.mem_map.mp hb
    exact ⟨p, hp, e⟩
  have atT : ∀ b, b ∈ cs.map (·.2) → s₁.heap.get? b = some { cls := .none, data := .fields #[] } := fun b hb => by
    obtain ⟨p, hp, rfl⟩ := inT b hb
    exact (hT p hp).2
  have oT : o ≠ { cls := .none, data := .fields #[] } := fun z => by rw [← ho] at z; cases z
  have naT : a ∉ cs.map (·.2) := fun z => oT (Option.some.inj (ha.symm.trans (atT a z)))
  -- whether the script is one of the module's own
  generalize hscr : (K.lookup a).isNone = scr
  generalize hH : H0 a o ns scr (cs.map (·.2)) = H
  have Ha : H a = if scr = true then some (.frz o (.lst (ns.map V.int))) else none := by rw [← hH]; exact if_pos rfl
  have Ht : ∀ b, b ∈ cs.map (·.2) → H b = some (.tbl #[]) := fun b hb => by
    rw [← hH]
    unfold H0
    rw [if_neg (show ¬ b = a from fun z => naT (by rw [← z]; exact hb)), if_pos hb]
  have Hn : ∀ b, b ≠ a → b ∉ cs.map (·.2) → H b = none := fun b h1 h2 => by
    rw [← hH]
    unfold H0
    rw [if_neg h1, if_neg h2]
  have Hany : ∀ b, H b ≠ none → b = a ∨ b ∈ cs.map (·.2) := fun b hb => by
    by_cases h1 : b = a
    · exact .inl h1
    · by_cases h2 : b ∈ cs.map (·.2)
      · exact .inr h2
      · exact absurd (Hn b h1 h2) hb
  have plain : ∀ (b : Addr) (u : Obj), s₁.heap.get? b = some u → u ≠ o → u ≠ { cls := .none, data := .fields #[] } → H b = none := fun b u e n1 n2 => by
    refine Hn b (fun z => n1 ?_) fun z => n2 ?_
    · rw [z] at e
      exact Option.some.inj (e.symm.trans ha)
    · exact Option.some.inj (e.symm.trans (atT b z))
  have held : HOk P w H s₁.heap := fun b u e => by
    rcases Hany b (by rw [e]; exact fun z => nomatch z) with rfl | hb
    · rw [Ha] at e
      cases scr with
      | false => exact nomatch e
      | true =>
        cases e
        exact ⟨ha, by rw [List.length_map]; exact hl, vs, 0, vals, by rw [ho]; exact ha⟩
    · rw [Ht b hb] at e
      cases e
      exact atT b hb
  have kinH : K.In (hidT s₁.heap H) := fun b u e => hidT_get (KX b u e) (by
    by_cases h1 : b = a
    · rw [h1, Ha]
      have : scr = false := by rw [← hscr, ← h1, e]; rfl
      rw [this]
      exact if_neg Bool.false_ne_true
    · refine Hn b h1 fun z => ?_
      obtain ⟨p, hp, rfl⟩ := inT b z
      rw [nT p hp] at e
      exact nomatch e)
  have nsH : ∀ {b : Addr} {m : Str → Option Value}, s₁.heap.Ns b m → (hidT s₁.heap H).Ns b m := fun {b m} ⟨u, es, ep, e, d, r⟩ =>
    ⟨u, es, ep, hidT_get e (plain b u e (fun z => by rw [z, ← ho] at d; cases d) (fun z => by rw [z] at d; cases d)), d, r⟩
  have modH : L2.Mod K mg (hidT s₁.heap H) := by
    obtain ⟨mc, n1, n2⟩ := T.nolimit
    exact ⟨kinH, nsH T.g, ⟨mb, nsH T.b, T.builtins⟩, ⟨mc, nsH n1, n2⟩⟩
  have tabs : ∀ p ∈ cs, GxR.TabB (hidT s₁.heap H) mg p.1 p.2 := fun p hp => by
    obtain ⟨⟨u, us, file, tf, flags, tg, inF, text, tt, c1, c2, c3, c4⟩, c5⟩ := hT p hp
    obtain ⟨bm, ob, b1, b2, b3, b4, b5, b6⟩ := T.bmain
    obtain ⟨gm, ges, gep, ge, gd, _⟩ := T.g
    refine ⟨⟨u, us, file, tf, flags, tg, inF, text, tt, hidT_get c1 (plain _ u c1 (fun z => by rw [z, ← ho] at c2; simp at c2) (fun z => by rw [z] at c2; cases c2)), c2, c3, c4⟩, ⟨bm, ob, b1, b2, fun z => ?_, fun z => ?_, hidT_get b3 (plain _ ob b3 (fun z => by rw [z, ← ho] at b4; simp at b4) (fun z => by rw [z] at b4; cases b4)), b4, b5, b6⟩, fun z => ?_⟩
    · rw [z, ge] at b3
      cases b3
      rw [gd] at b6
      cases b6
    · rw [z, c5] at b3
      cases b3
      cases b6
    · rw [z, c5] at ge
      cases ge
      cases gd
  have seen : SqL K H a (ns.map V.int) := by
    cases scr with
    | true => exact .inl (.inr ⟨o, by rw [Ha]; exact if_pos rfl⟩)
    | false =>
      cases hk : K.lookup a with
      | none =>
        rw [hk] at hscr
        exact nomatch hscr
      | some u =>
        have e := KX a u hk
        rw [ha] at e
        cases e
        exact .inr ⟨o, vs.toArray, 0, hk, by rw [← ho], by rw [← ho], by rw [← ho], by rw [List.size_toArray, hi.length]; exact hl, by simpa using vals⟩
  have e0 : Env0 P w K mg (hidT s₁.heap H) callerA [] s₁ H :=
    ⟨rfl, modH, fun b u e => of_hidT e, Nat.le_of_eq (hidT_size _ _), trivial, fun b hb => absurd (show b ∈ ([] : List Addr) from hb) List.not_mem_nil, held, .of_eq noG⟩
  refine codeAny_mono ((F _ kinH (nsH T.g) tabs).go callerA [] s₁ H ⟨[.ref a], []⟩ [.ref a] [.ref a] _ _ hr rfl e0 (hbind s₁ (.ref a)) (.cons rfl .nil) (hsp H (fun p hp => Ht p.2 (List.mem_map.mpr ⟨p, hp, rfl⟩)) seen)) fun res s2 h => ?_
  match res, h with
  | .error e, h => exact (hCX H e s2 h).elim
  | .ok .next, h => exact False.elim h
  | .ok .brk, h => exact False.elim h
  | .ok .cont, h => exact False.elim h
  | .ok (.ret u), h =>
    obtain ⟨v, H', os, bare, un, held', r', q'⟩ := h
    obtain rfl : v = .bl true := q'
    obtain rfl : u = Value.bool true := r'
    have stays : ∀ b u, b ∉ cs.map (·.2) → s₁.heap.get? b = some u → s2.heap.get? b = some u := fun b u nb e => by
      cases hb : H b with
      | none => exact un.keep b u e hb List.not_mem_nil List.not_mem_nil
      | some z =>
        rcases Hany b (by rw [hb]; exact fun z => nomatch z) with rfl | h2
        · rw [Ha] at hb
          cases scr with
          | false => exact nomatch hb
          | true =>
            have z2 := un.frzs b o (.lst (ns.map V.int)) (by rw [Ha]; exact if_pos rfl)
            have e2 := (held' b _ z2).1
            rw [ha] at e
            cases e
            exact e2
        · exact absurd h2 nb
    have grown : ∀ p ∈ cs, ∃ more : Array Value, s2.heap.get? p.2 = some { cls := .none, data := .fields more } := fun p hp => by
      obtain ⟨more, z⟩ := un.tbls p.2 #[] (Ht p.2 (List.mem_map.mpr ⟨p, hp, rfl⟩))
      exact ⟨_, held' p.2 _ z⟩
    refine ⟨rfl, ⟨fun b u e => ?_, fun b u e => ?_⟩, os, bare⟩
    · by_cases hb : b ∈ cs.map (·.2)
      · obtain ⟨p, hp, rfl⟩ := inT b hb
        obtain ⟨more, hm⟩ := grown p hp
        rw [(hT p hp).2] at e
        cases e
        exact .inr (.inl ⟨((hT p hp).1.tab (hT p hp).2).isCodeTable, rfl, #[], more, rfl, by rw [Array.empty_append]; exact hm⟩)
      · exact .inl (stays b u hb e)
    · by_cases hb : b ∈ cs.map (·.2)
      · obtain ⟨p, hp, rfl⟩ := inT b hb
        obtain ⟨more, hm⟩ := grown p hp
        exact ⟨_, hm⟩
      · exact ⟨u, stays b u hb e⟩
/-- what is asked of the law over the head -/
def LawIs (l : PySem.W.OpenLaw) (w : World) (K : PySem.W.Frag) (CX : CXT) (k : Nat) (x : Str) (mg : Str → Option Value) (fa : Addr) (h : Heap) : Prop :=
  ∃ (fd : FuncData) (cs : List (Addr × Addr)) (sp : Sp), (∀ p ∈ cs, PySem.W.CodeHd h p.1 p.2 ∧ h.get? p.2 = some { cls := .none, data := .fields #[] }) ∧ (∀ p ∈ cs, K.lookup p.2 = none) ∧ (∀ (s : Shared) (u : Value), BindsTo s fd ⟨[u], []⟩ [(x, u)]) ∧
    (∀ (H : Hp) (a : Addr) (ns : List Int), ns.length ≤ 63 → (∀ z ∈ ns, Builtin.Int.intBits z ≤ 1048576) → (∀ p ∈ cs, H p.2 = some (.tbl #[])) → SqL K H a (ns.map V.int) → sp [.ref a] H (fun v _ => v = .bl true) fun _ _ _ => False) ∧
    ∀ base : Heap, K.In base → base.Ns mainGlobals mg → (∀ p ∈ cs, GxR.TabB base mg p.1 p.2) → FnG l.prog w K mg base CX k fa fd [x] sp
theorem walk_g {l : PySem.W.OpenLaw} {k : Nat} {q : Program} {loose : List Str} {XP : (Str → Option Value) → Heap → Prop} {YP : World → Heap → Prop} {d : DefRec} {K : Params → PySem.W.Frag} {CX : World → CXT} {x : Str}
    (hn : l.most = some 63) (hdf : d.params.defaults = []) (hr : Room k callerA) (hY : ∀ (w : World) (h : Heap), YP w h → (K w.params).In h)
    (F : ∀ (w : World) (mg mb : Str → Option Value) (fa : Addr) (h : Heap) (loose : List Str) (mean : ExcName → Option Value), YP w h → (K w.params).In h → PyProof.Rows.Top q loose mean mg mb h → mg d.name = some (.ref fa) → LawIs l w (K w.params) (CX w) k x mg fa h)
    (hCX : ∀ (w : World) (H : Hp) (s : Shared) (e : Value) (s' : Shared), CX w [] H s (fun _ _ _ => False) e s' → False) :
    PySem.W.WalkO q loose XP YP l.row.toRowW d [] (fun f vs => PySem.call f vs) := by
  refine Att.attach_callB hn hdf fun w s₀ s₁ mg mb fa o pm cd doc a vs ns G Y ho hd hcd hmg hobj hints hlen hbits hg => ?_
  obtain ⟨fd, cs, sp, hT, nT, hb, hsp, hF⟩ := F w mg mb fa s₁.heap _ _ Y (hY w s₁.heap Y) G.T hmg
  exact law_go (hY w s₁.heap Y) G.T hg hT nT hobj hints (Nat.le_trans hlen (by decide)) hr hF hb (fun H hH hS => hsp H a ns hlen hbits hH hS) fun H e s' => hCX w H s₁ e s'
end Ap


/-! K2: rules that the layer lacks. -/
namespace Ap
open PySem L2 PySem.Spec PyProof.Rows
section
variable {X : Cx}
/-! ### a list beside the empty list, whatever it holds -/
def rEqE (K : PySem.W.Frag) : R2 := fun x y H Q => ∃ p q xs, x = .ref p ∧ y = .ref q ∧ SqL K H p xs ∧ SqL K H q [] ∧ Q (.bl xs.isEmpty) H
def rNeE (K : PySem.W.Frag) : R2 := fun x y H Q => ∃ p q xs, x = .ref p ∧ y = .ref q ∧ SqL K H p xs ∧ SqL K H q [] ∧ Q (.bl (!xs.isEmpty)) H
theorem isList_of {h : Heap} {a : Addr} {its : Array Value} (x : PlainL h a its) : h.IsList a its := by
  obtain ⟨o, n, e, c, _, d⟩ := x
  exact ⟨o, e, c, n, d⟩
theorem op_eqE (hu : X.A.units < cLine) : OpR X (compareOp .Eq) (rEqE X.K) := by
  intro pins s σ H x y v u Q I rx ry h
  obtain ⟨p, q, xs, rfl, rfl, h1, h2, k⟩ := h
  cases rx
  cases ry
  obtain ⟨its, r1, l1, _⟩ := I.list h1
  obtain ⟨its2, r2, l2, _⟩ := I.list h2
  cases r2
  cases r1 with
  | nil => exact SeqAt.eq_listAt (isList_of l1) (isList_of l2) rfl hu (e := fun _ => true) (fun j j1 _ => absurd j1 (by simp)) ⟨.bl _, H, I, rfl, k⟩
  | cons a b => exact SeqAt.eq_list_lengthsAt (isList_of l1) (isList_of l2) (by simp) hu ⟨.bl _, H, I, rfl, k⟩
theorem op_neE (hu : X.A.units < cLine) : OpR X (compareOp .NotEq) (rNeE X.K) := by
  intro pins s σ H x y v u Q I rx ry h
  obtain ⟨p, q, xs, rfl, rfl, h1, h2, k⟩ := h
  cases rx
  cases ry
  obtain ⟨its, r1, l1, _⟩ := I.list h1
  obtain ⟨its2, r2, l2, _⟩ := I.list h2
  cases r2
  cases r1 with
  | nil => exact (SeqAt.RcNeAt.lists (isList_of l1) (isList_of l2) rfl hu (e := fun _ => true) (fun j j1 _ => absurd j1 (by simp))) _ _ _ _ ⟨.bl _, H, I, rfl, k⟩
  | cons a b => exact (SeqAt.RcNeAt.lists_lengths (isList_of l1) (isList_of l2) (by simp) hu) _ _ _ _ ⟨.bl _, H, I, rfl, k⟩
theorem g_neE {K : PySem.W.Frag} {H : Hp} {Q : VK} {p q : Addr} {xs : List V} (e : H p = some (.lst xs)) (e2 : H q = some (.lst [])) (h : Q (.bl (!xs.isEmpty)) H) : rNeE K (.ref p) (.ref q) H Q := ⟨p, q, xs, rfl, rfl, SqL.of e, SqL.of e2, h⟩
theorem g_eqE {K : PySem.W.Frag} {H : Hp} {Q : VK} {p q : Addr} {xs : List V} (e : H p = some (.lst xs)) (e2 : H q = some (.lst [])) (h : Q (.bl xs.isEmpty) H) : rEqE K (.ref p) (.ref q) H Q := ⟨p, q, xs, rfl, rfl, SqL.of e, SqL.of e2, h⟩

/-! ### repr of data -/
mutual
theorem dp_plain {K : PySem.W.Frag} {H : Hp} : ∀ {d : PyData} {v : V}, Dp K H v d → d.hasDict = false
  | _, _, .non => by simp only [PyData.hasDict]
  | _, _, .bl b => by simp only [PyData.hasDict]
  | _, _, .int i => by simp only [PyData.hasDict]
  | _, _, .str x => by simp only [PyData.hasDict]
  | _, _, .lst _ a => by simp only [PyData.hasDict]; exact dpAll_plain a
  | _, _, .tup _ a => by simp only [PyData.hasDict]; exact dpAll_plain a
theorem dpAll_plain {K : PySem.W.Frag} {H : Hp} : ∀ {ds : List PyData} {vs : List V}, DpAll K H vs ds → PyData.hasDictAll ds = false
  | _, _, .nil => by simp only [PyData.hasDictAll]
  | _, _, .cons h t => by simp only [PyData.hasDictAll, dp_plain h, dpAll_plain t, Bool.or_self]
end
def rRep (K : PySem.W.Frag) : List V → Hp → VK → Prop := fun xs H Q => ∃ (p : Addr) (d : PyData), xs = [.ref p] ∧ Dp K H (.ref p) d ∧ d.showable = true ∧ d.depth < 60 ∧ d.shown.length ≤ sizeLine ∧ Q (.str d.shown) H
theorem cr_repr {k : Nat} (hr : Room k X.A) (hg : X.A.guards = some []) : CallR X (.builtin "repr") (rRep X.K) := by
  intro pins s σ H xs us Q I r h
  obtain ⟨p, d, rfl, hd, hs, hdp, hz, q⟩ := h
  obtain ⟨u, rfl, rx⟩ := vals1 r
  cases rx
  obtain ⟨as, rd⟩ := Dp.reads I d (.ref p) (.ref p) hd rfl
  have hu := hr.units
  exact repr_of_reads' rd hs (PyData.noDict_hsm (dp_plain hd)) hg (by omega) (fun _ _ e => e) (fun h' u tk kp => ⟨.str d.shown, H, I.kept kp, ⟨u, rfl⟩, q⟩) hz
theorem g_repr {K : PySem.W.Frag} {H : Hp} {Q : VK} {p : Addr} {d : PyData} (hd : Dp K H (.ref p) d) (hs : d.showable = true) (hdp : d.depth < 60) (hz : d.shown.length ≤ sizeLine) (h : Q (.str d.shown) H) : rRep K [.ref p] H Q := ⟨p, d, rfl, hd, hs, hdp, hz, h⟩
end
end Ap


/-! KQ: code that leaves every object as it is (what a generator expression asks of its element). -/
namespace Ap
open PySem L2 PySem.Spec PyProof.Rows
structure Gd (K : PySem.W.Frag) (mg : Str → Option Value) (h : Heap) : Prop where
  kin : K.In h
  ns : h.Ns mainGlobals mg
  blt : ∃ mb, h.Ns builtinsNs mb ∧ ∀ x : Str, x ≠ "__name__" → mb x = bootBuiltins x
  lim : h.NoLimit
abbrev Stays (h h' : Heap) : Prop := ∀ b o, h.get? b = some o → h'.get? b = some o
theorem Gd.keeps {K : PySem.W.Frag} {mg : Str → Option Value} {h h' : Heap} (g : Gd K mg h) (k : Stays h h') : Gd K mg h' :=
  ⟨g.kin.keeps k, g.ns.keeps k, let ⟨mb, a, b⟩ := g.blt; ⟨mb, a.keeps k, b⟩, let ⟨mc, a, b⟩ := g.lim; ⟨mc, a.keeps k, b⟩⟩
theorem kst {s s' : Shared} (k : Keeps s s') : Stays s.heap s'.heap := by
  obtain ⟨h, t, rfl, q⟩ := k
  exact q
theorem ktr {s s' s'' : Shared} (a : Keeps s s') (b : Keeps s' s'') : Keeps s s'' := by
  obtain ⟨h, t, rfl, q⟩ := a
  obtain ⟨h2, t2, rfl, q2⟩ := b
  exact ⟨h2, t2, rfl, fun x o e => q2 x o (q x o e)⟩
theorem kat (s : Shared) (t : Nat) : Keeps s { s with toks := t } := ⟨s.heap, t, rfl, fun _ _ e => e⟩
/-- an expression's value in a frame that runs; good: what is known of the heap, kept where objects are kept -/
structure Qx where
  P : Program
  w : World
  K : PySem.W.Frag
  mg : Str → Option Value
  env : Env
  A : Around
  good : Heap → Prop
structure Qx.Ok (X : Qx) : Prop where
  gd : ∀ h, X.good h → Gd X.K X.mg h
  kp : ∀ h h', X.good h → Stays h h' → X.good h'
  kind : X.env.scope.kind = .function
  glob : X.env.globals = mainGlobals
  blt : X.env.builtins = builtinsNs
/-- e has a value of which R holds -/
def QE (X : Qx) (e : Expr) (R : Value → Prop) : Prop := ∀ (E : Value → Shared → Prop) (s : Shared), X.good s.heap → wpAny (model X.P X.w) X.A (eval e X.env) (fun u s' => R u ∧ Keeps s s') E s
section
variable {X : Qx} {e : Expr} {x : Str} {p pos : Pos} {u : Value} {R : Value → Prop}
theorem q_loc (ok : X.Ok) (hk : X.env.kindOf x = some .local) (h : ∀ h, X.good h → ∃ m, h.Ns X.env.locals m ∧ m x = some u) (r : R u) (hd : (x == ("__debug__" : Str)) = false := by decide) : QE X (.Name x pos) R := fun E s g => by
  obtain ⟨m, n, e⟩ := h s.heap g
  exact wpAny_Name (wpAny_loadName_local ok.kind hk n e ⟨r, kat s s.toks⟩) hd
theorem q_free (ok : X.Ok) {c : Addr} (hk : X.env.kindOf x = some .free) (hc : X.env.cells.lookup x = some c) (h : ∀ h, X.good h → h.IsCell c (some u)) (r : R u) (hd : (x == ("__debug__" : Str)) = false := by decide) (hcd : (x == ("__classdict__" : Str)) = false := by decide) : QE X (.Name x pos) R := fun E s g =>
  wpAny_Name (wpAny_loadName_free ok.kind hk hc (h s.heap g) ⟨r, kat s s.toks⟩ hcd) hd
theorem q_int {i : Int} {j : Nat} (r : ∀ t, R (.int i t)) : QE X (.Constant (.int i) j pos) R := fun E s g => wpAny_Constant_int ⟨r _, kat s _⟩
/-- isinstance(e, T) -/
theorem q_isi (ok : X.Ok) {b : Bool} {T T' : String} {x' : Str} {Pv : Heap → Prop} {p2 : Pos} (he : QE X e (· = u)) (Z : PySem.W.KitX X.K u (.type T') Pv) (hP : ∀ h, X.good h → Pv h) (k : kitB T' T = some b) (hx : u ≠ .builtin "__main__.__loader__#opaque")
    (g1 : X.env.kindOf "isinstance" = some .globalImplicit) (m1 : X.mg "isinstance" = none) (g2 : X.env.kindOf x' = some .globalImplicit) (m2 : X.mg x' = none) (v2 : bootBuiltins x' = some (.type T)) (r : R (.bool b)) (n2 : x' ≠ "__name__" := by decide) (d2 : (x' == ("__debug__" : Str)) = false := by decide)
    (h1 : starEach [e, .Name x' p2] X.env = (false, eval e X.env) :: starEach [.Name x' p2] X.env := by rfl) (h2 : starEach [.Name x' p2] X.env = (false, eval (.Name x' p2) X.env) :: starEach [] X.env := by rfl) :
    QE X (.Call (.Name "isinstance" p) [e, .Name x' p2] [] pos) R := fun E s g => by
  obtain ⟨mb, b1, b2⟩ := (ok.gd _ g).blt
  refine wpAny_Call_Name_kw (Calls.Name_function_global ok.kind g1 (Calls.loadGlobal_builtin (by rw [ok.glob]; exact (ok.gd _ g).ns) m1 (by rw [ok.blt]; exact b1) ((b2 _ (by decide)).trans boot_isinstance) ?_) (by decide))
  refine PyProof.Rows.callWith_builtin1 ?_ h1 (by rfl)
  rw [h1]
  refine Calls.spliced_cons (thn (he E s g) fun v s1 ⟨ev, k1⟩ => ?_)
  subst ev
  have g' := ok.kp _ _ g (kst k1)
  obtain ⟨mb', c1, c2⟩ := (ok.gd _ g').blt
  rw [h2]
  refine Calls.spliced_cons (Calls.Name_function_global ok.kind g2 (Calls.loadGlobal_builtin (by rw [ok.glob]; exact (ok.gd _ g').ns) m2 (by rw [ok.blt]; exact c1) ((c2 _ n2).trans v2) ?_) d2)
  refine Calls.spliced_nil ?_
  exact PySem.W.kia_one Z (ok.gd _ g').kin (hP _ g') (kit_ty k) hx fun tk => ⟨r, ktr k1 (kat s1 tk)⟩
theorem q_not {a : Bool} (he : QE X e (· = .bool a)) (r : R (.bool (!a))) : QE X (.UnaryOp .Not e pos) R := fun E s g =>
  UnaryOp_ (thn (he E s g) fun v s1 ⟨ev, k1⟩ => by subst ev; exact not_of (wpAny_truthy_bool ⟨r, k1⟩))
theorem q_and {a : Bool} {e' : Expr} (ok : X.Ok) (he : QE X e (· = .bool a)) (h1 : a = true → QE X e' R) (h0 : a = false → R (.bool false)) : QE X (.BoolOp .And [e, e'] pos) R := fun E s g => by
  refine BoolOp_and (thn (he E s g) fun v s1 ⟨ev, k1⟩ => ?_)
  subst ev
  refine wpAny_truthy_bool ?_
  cases a with
  | true => exact BoolOp_one (thn (h1 rfl E s1 (ok.kp _ _ g (kst k1))) fun v s2 ⟨r, k2⟩ => ⟨r, ktr k1 k2⟩)
  | false => exact ⟨h0 rfl, k1⟩
/-- a call of a def of the text -/
def QF (P : Program) (w : World) (K : PySem.W.Frag) (mg : Str → Option Value) (d : Nat) (f : Addr) (us : List Value) (pre : Heap → Prop) (R : Value → Prop) : Prop :=
  ∀ (A : Around) (E : Value → Shared → Prop) (s : Shared), A.handled = none → A.depth + d < recursionLimit → Gd K mg s.heap → pre s.heap → wpAny (model P w) A (call (.ref f) us) (fun y s' => R y ∧ Keeps s s') E s
theorem q_call1 (ok : X.Ok) {d : Nat} {f : Addr} {u : Value} {pre : Heap → Prop} (hd : X.A.handled = none) (hdp : X.A.depth + d < recursionLimit) (F : QF X.P X.w X.K X.mg d f [u] pre R) (hp : ∀ h, X.good h → pre h) (g1 : X.env.kindOf x = some .globalImplicit) (hm : X.mg x = some (.ref f)) (hk : PySem.W.keepIn X.K (.ref f) = true) (he : QE X e (· = u))
    (hdb : (x == ("__debug__" : Str)) = false := by decide) (h1 : starEach [e] X.env = (false, eval e X.env) :: starEach [] X.env := by rfl) : QE X (.Call (.Name x p) [e] [] pos) R := fun E s g => by
  refine wpAny_Call_Name_kw (Calls.Name_function_global ok.kind g1 (Calls.loadGlobal_global (by rw [ok.glob]; exact (ok.gd _ g).ns) hm ?_) hdb)
  refine PySem.W.callWith_K (ok.gd _ g).kin hk ?_ h1 (by rfl)
  rw [h1]
  refine Calls.spliced_cons (thn (he E s g) fun v s1 ⟨ev, k1⟩ => ?_)
  subst ev
  have g' := ok.kp _ _ g (kst k1)
  exact Calls.spliced_nil ⟨(ok.gd _ g').kin, thn (F X.A E s1 hd hdp (ok.gd _ g') (hp _ g')) fun y s2 ⟨r, k2⟩ => ⟨r, ktr k1 k2⟩⟩
theorem q_call2 (ok : X.Ok) {d : Nat} {f : Addr} {e2 : Expr} {u u2 : Value} {pre : Heap → Prop} (hd : X.A.handled = none) (hdp : X.A.depth + d < recursionLimit) (F : QF X.P X.w X.K X.mg d f [u, u2] pre R) (hp : ∀ h, X.good h → pre h) (g1 : X.env.kindOf x = some .globalImplicit) (hm : X.mg x = some (.ref f)) (hk : PySem.W.keepIn X.K (.ref f) = true) (he : QE X e (· = u)) (he2 : QE X e2 (· = u2))
    (hdb : (x == ("__debug__" : Str)) = false := by decide) (h1 : starEach [e, e2] X.env = (false, eval e X.env) :: starEach [e2] X.env := by rfl) (h2 : starEach [e2] X.env = (false, eval e2 X.env) :: starEach [] X.env := by rfl) : QE X (.Call (.Name x p) [e, e2] [] pos) R := fun E s g => by
  refine wpAny_Call_Name_kw (Calls.Name_function_global ok.kind g1 (Calls.loadGlobal_global (by rw [ok.glob]; exact (ok.gd _ g).ns) hm ?_) hdb)
  refine PySem.W.callWith_K (ok.gd _ g).kin hk ?_ h1 (by rw [h2]; rfl)
  rw [h1, h2]
  refine Calls.spliced_cons (thn (he E s g) fun v s1 ⟨ev, k1⟩ => ?_)
  subst ev
  have g1' := ok.kp _ _ g (kst k1)
  refine Calls.spliced_cons (thn (he2 E s1 g1') fun v s2 ⟨ev, k2⟩ => ?_)
  subst ev
  have g' := ok.kp _ _ g1' (kst k2)
  exact Calls.spliced_nil ⟨(ok.gd _ g').kin, thn (F X.A E s2 hd hdp (ok.gd _ g') (hp _ g')) fun y s3 ⟨r, k3⟩ => ⟨r, ktr (ktr k1 k2) k3⟩⟩
/-- a <= b <= c of whole numbers -/
theorem q_le2 (ok : X.Ok) {a b c : Expr} {i j k : Int} (ha : QE X a (fun v => ∃ t, v = .int i t)) (hb : QE X b (fun v => ∃ t, v = .int j t)) (hc : QE X c (fun v => ∃ t, v = .int k t)) (r : R (.bool (decide (i ≤ j) && decide (j ≤ k))))
    (hm : lastMarks [.LtE, .LtE] [b, c] = false := by with_unfolding_all rfl) : QE X (.Compare a [.LtE, .LtE] [b, c] pos) R := fun E s g => by
  refine Compare_chain (thn (ha E s g) fun v s1 ⟨⟨t, ev⟩, k1⟩ => chain_link (thn (hb E s1 (ok.kp _ _ g (kst k1))) fun v' s2 ⟨⟨t', ev'⟩, k2⟩ => ?_)) hm
  subst ev ev'
  refine le_int ?_
  refine wpAny_truthy_bool ?_
  have g2 := ok.kp _ _ (ok.kp _ _ g (kst k1)) (kst k2)
  cases h1 : decide (i ≤ j) with
  | false =>
    rw [h1] at r
    exact PyProof.Rows.ite_ff ⟨r, ktr k1 k2⟩
  | true =>
    rw [h1] at r
    refine PyProof.Rows.ite_tt (chain_last (thn (hc E s2 g2) fun w' s3 ⟨⟨t3, e3⟩, k3⟩ => ?_))
    subst e3
    exact le_int ⟨r, ktr (ktr k1 k2) k3⟩
/-- the frame of a def's body, its parameters' values known -/
def bq (P : Program) (w : World) (K : PySem.W.Frag) (mg : Str → Option Value) (ps : List Str) (us : List Value) (pre : Heap → Prop) (env : Env) (B : Around) : Qx :=
  ⟨P, w, K, mg, env, B, fun h => Gd K mg h ∧ pre h ∧ ∃ m, h.Ns env.locals m ∧ ∀ y v, (y, v) ∈ ps.zip us → m y = some v⟩
section
variable {P : Program} {w : World} {K : PySem.W.Frag} {mg : Str → Option Value} {ps : List Str} {us : List Value} {pre : Heap → Prop} {env : Env} {B : Around} {sc : Scope}
theorem bq_ok (hpre : ∀ h h', pre h → Stays h h' → pre h') (e1 : env.scope = sc) (hk : sc.kind = .function) (e2 : env.globals = mainGlobals) (e3 : env.builtins = builtinsNs) : (bq P w K mg ps us pre env B).Ok :=
  ⟨fun _ g => g.1, fun h h' g k => ⟨g.1.keeps k, hpre h h' g.2.1 k, let ⟨m, a, b⟩ := g.2.2; ⟨m, a.keeps k, b⟩⟩, by show env.scope.kind = _; rw [e1]; exact hk, e2, e3⟩
theorem bq_par {y : Str} {v : Value} {p : Pos} (ok : (bq P w K mg ps us pre env B).Ok) (e1 : env.scope = sc) (hk : sc.names.lookup y = some .local) (m : (y, v) ∈ ps.zip us) (hd : (y == ("__debug__" : Str)) = false := by decide) : QE (bq P w K mg ps us pre env B) (.Name y p) (· = v) :=
  q_loc ok (by show env.scope.names.lookup _ = _; rw [e1]; exact hk) (fun h g => let ⟨n, a, b⟩ := g.2.2; ⟨n, a, b y v m⟩) rfl hd
theorem bq_glob {y : Str} (e1 : env.scope = sc) (hk : sc.names.lookup y = some .globalImplicit) : (bq P w K mg ps us pre env B).env.kindOf y = some .globalImplicit := by
  show env.scope.names.lookup _ = _
  rw [e1]; exact hk
end
/-- a def whose body is one return -/
theorem qf_ret {P : Program} {w : World} {K : PySem.W.Frag} {mg : Str → Option Value} {d : Nat} {f : Addr} {fd : FuncData} {qual : Str} {st : Stmt} {ps : List Str} {us : List Value} {pre : Heap → Prop} {e : Expr} {rp : Pos} (F : Fun K x qual st f fd) (hkd : (defScope st).kind = .function) (hco : (defScope st).isCoroutine = false) (hge : (defScope st).isGenerator = false)
    (hloc : ∀ y ∈ ps, (defScope st).names.lookup y = some .local) (hb : Binds K fd ps []) (hl : us.length = ps.length) (hbd : defBody st = [.Return (some e) rp]) (hpre : ∀ h h', pre h → Stays h h' → pre h')
    (body : ∀ (B : Around) (env : Env), B.handled = none → B.depth + d < recursionLimit → env.scope = defScope st → env.globals = mainGlobals → env.builtins = builtinsNs →
      QE (bq P w K mg ps us pre env B) e R) (nd : ps.Nodup) : QF P w K mg (d + 1) f us pre R := by
  intro A E s hd hdp g hp
  obtain ⟨oc, od, kV, doc, pm, an, cdv, ct, osl, rfl, lk, hcd⟩ := F.ex
  have hb' := hb s us g.kin (by simpa using hl)
  rw [List.append_nil] at hb'
  refine wpAny_call (codeAny_call_function (by omega) (g.kin f _ lk) rfl hco hge rfl (PySem.W.codeRec_of g.kin hcd) (hb' _ _ _ _ ?_))
  refine wpAny_newFunctionEnv_cells hkd (fun y hy => .inl (hloc _ (List.of_mem_zip (show (y.1, y.2) ∈ ps.zip us from hy)).1)) fun env he s1 inc => ?_
  subst he
  obtain ⟨h1, tk, rfl, hk⟩ := inc.done
  refine ⟨g.lim.keeps hk, codeAny_func ?_⟩
  rw [hbd]
  refine wpAny_execs_cons (wpAny_Return_some ?_)
  have hB := body (A.deeper (envOfC qual (defScope st) s.heap.objs.size f cdv)) (envOfC qual (defScope st) s.heap.objs.size f cdv) hd (by show A.depth + 1 + d < _; omega) rfl rfl rfl
  refine thn (hB _ { s with heap := h1, toks := tk } ⟨g.keeps hk, hpre _ _ hp hk, _, inc.toInCall.ns, fun y v hy => ?_⟩) fun u s2 ⟨r, k⟩ => ⟨r, ktr ⟨h1, tk, rfl, hk⟩ k⟩
  obtain ⟨i, hi, ei⟩ := List.getElem_of_mem hy
  rw [List.getElem_zip] at ei
  have hz := hi
  rw [List.length_zip] at hz
  have i1 : i < ps.length := by omega
  have i2 : i < us.length := by omega
  have h1 : ps[i]? = some y := (List.getElem?_eq_getElem i1).trans (congrArg some (Prod.mk.inj ei).1)
  have h2 : us[i]? = some v := (List.getElem?_eq_getElem i2).trans (congrArg some (Prod.mk.inj ei).2)
  exact bindL_get nd h1 h2 (hloc y (List.mem_of_getElem? h1))
end
end Ap


/-! KA: all(elt for x in a list), the element code that leaves every object as it is. -/
namespace Ap
open PySem L2 PySem.Spec PyProof.Rows
/-- the frame of a generator expression's element, x bound to v; h1: the heap in which it was made -/
def qxOf (X : Cx) (scope : Scope) (x : Str) (P : Addr) (h1 : Heap) (C : Addr) (code : Value) (v : Value) (A : Around) : Qx where
  P := X.prog
  w := X.w
  K := X.K
  mg := X.mg
  env := genEnv scope (cloFrom X.env.cells scope.names []) C code builtinsNs X.env
  A := A
  good := fun h => Gd X.K X.mg h ∧ (∀ b o, b ≠ P → h1.get? b = some o → h.get? b = some o) ∧ ∃ m, h.Ns C m ∧ m x = some v
theorem qxOf_ok {X : Cx} (gl : X.env.globals = mainGlobals) {scope : Scope} (hk : scope.kind = .function) {x : Str} {P : Addr} {h1 : Heap} {C : Addr} {code v : Value} {A : Around} : (qxOf X scope x P h1 C code v A).Ok where
  gd := fun h g => g.1
  kp := fun h h' g k => ⟨g.1.keeps k, fun b o n e => k b o (g.2.1 b o n e), let ⟨m, a, e⟩ := g.2.2; ⟨m, a.keeps k, e⟩⟩
  kind := hk
  glob := gl
  blt := rfl
/-- what the element is at the item w: the answer y fits R w -/
def EltL (X : Cx) (scope : Scope) (x : Str) (P : Addr) (elt : Expr) (Cn : L2.St → Hp → V → (Value → Prop) → Prop) : Prop :=
  ∀ (pins : List (Addr × Obj)) (σ : L2.St) (H : Hp) (s : Shared), Inv X pins σ H s → (∃ ps, H P = some (.tbl ps)) → ∀ (w : V) (R : Value → Prop), Cn σ H w R → ∀ (u : Value), RelV w u → ∀ (C : Addr) (code : Value) (A : Around), A.handled = none → A.depth ≤ X.A.depth + 1 → A.units ≤ X.A.units + 8 →
    QE (qxOf X scope x P s.heap C code u A) elt R
section
variable {X : Cx} {pins : List (Addr × Obj)} {σ : L2.St} {H : Hp} {s : Shared}
/-- the generator g over the list ws, ready to be walked, in the state s5; H1: what was held before -/
def ReadyL (X : Cx) (pins : List (Addr × Obj)) (σ : L2.St) (H1 : Hp) (P : Addr) (ws : List V) (RR : Nat → Value → Prop) (g : Addr) (s5 : Shared) : Prop :=
  ∃ (fp wr : List Addr) (G : Array GenState → Array GenState → Prop) (F : Nat → Value → Prop) (St : Nat → Shared → Prop),
    WalksS X.prog X.w X.A.in4 g fp wr G ws.length F St ∧ St 0 s5 ∧ (∀ j v, F j v → j < ws.length ∧ RR j v) ∧
    ∀ s', Moved wr G s5 s' → ∃ H2, GxR.Tabbed P H1 H2 ∧ Inv X pins σ H2 s'
theorem gen_any {c P : Addr} {elt iter : Expr} {x : Str} {px gpos : Pos} {scope : Scope} {te : TE} {k : Nat} {Q' : Value → Shared → Prop} {Cn : L2.St → Hp → V → (Value → Prop) → Prop} {Rst : List V → (Nat → Value → Prop) → Hp → Prop}
    (hr : Room k X.A) (TB : GxR.TabB X.base X.mg c P) (hcode : X.env.code = .ref c) (S : GxR.GenS X.env scope x) (hi : PE X iter te) (hel : EltL X scope x P elt Cn)
    (hs : ∀ v, genFold iter X.env v = pure v) (I : Inv X pins σ H s)
    {Post : V → Hp → Prop} (h : te σ H Post)
    (hp : ∀ v H1, Post v H1 → ∃ (yl : Addr) (ws : List V) (RR : Nat → Value → Prop), v = .ref yl ∧ SqL X.K H1 yl ws ∧ (∀ i w, ws[i]? = some w → Cn σ H1 w (RR i)) ∧ GxR.TabG H1 P ∧ Rst ws RR H1)
    (hQ : ∀ ws RR H1 g s5, Rst ws RR H1 → ReadyL X pins σ H1 P ws RR g s5 → Q' (.ref g) s5) :
    wpAny (model X.prog X.w) X.A (eval (.GeneratorExp elt [⟨.Name x px, iter, [], 0⟩] scope gpos) X.env) Q' X.xe s := by
  refine wpAny_GeneratorExp_walksQD hr.hd S.co (closure_ok S.free) S.cell S.dot S.loc S.kind (by have := hr.dp; omega) ?_ hs
  refine thn (hi.run pins s σ H _ I h) fun xv s1 ⟨v, H1, I1, r1, q1⟩ => ?_
  obtain ⟨yl, ws, RR, rfl, hyl, hCn, ⟨ps, hP, ht⟩, q1⟩ := hp v H1 q1
  obtain rfl : xv = Value.ref yl := r1
  obtain ⟨its, rv, hl, hz⟩ := I1.list hyl
  have hIL := hl.isList
  have hlen : its.length = ws.length := rv.length.symm
  refine wpAny_pyIter_list hIL ?_
  generalize ho : ({ cls := .type "list_iterator", data := .fields #[.ref yl, .int 0 0] } : Obj) = o
  have hitr : (s1.heap.push o).IsListIter s1.heap.objs.size yl 0 := by
    subst ho
    exact ⟨_, Heap.get?_push_size _ rfl, rfl, rfl⟩
  have hylt : yl < s1.heap.objs.size := by
    obtain ⟨_, e, _⟩ := _root_.id hIL
    exact Heap.lt_size e
  have hPs : s1.heap.get? P = some { cls := .none, data := .fields ps } := I1.hok P _ hP
  have hPlt : P < s1.heap.objs.size := Heap.lt_size hPs
  have hP2 : (s1.heap.push o).get? P = some { cls := .none, data := .fields ps } := Heap.get?_push_of_some _ hPs
  have cd : PySem.W.CodeHd (s1.heap.push o) c P := TB.code.keeps fun b u e => Heap.get?_push_of_some _ (I1.bk b u e)
  have lim2 : (s1.heap.push o).NoLimit := I1.nolimit.push o
  have cont : ∀ (code : Value) (h3 : Heap) (tk : Nat) (ps' : Array Value), Heap.ExtBut P (s1.heap.push o) h3 → (s1.heap.push o).objs.size ≤ h3.objs.size → h3.get? P = some { cls := .none, data := .fields ps' } → (∃ more, ps' = ps ++ more) → TriplesOk ps'.toList →
      wpAny (model X.prog X.w) X.A (builtinsFor X.env.globals X.env.builtins) (fun bi s₄ =>
        ∃ Ia fp wr n₀ Pf St₀ pz F, Value.ref s1.heap.objs.size = .ref Ia ∧ (∀ A' : Around, A'.handled = none → Walks X.prog X.w A' Ia fp wr n₀ Pf St₀) ∧ St₀ 0 s₄.heap ∧ (∀ b ∈ fp, b < s₄.heap.objs.size) ∧ s₄.heap.NoLimit ∧ cStatics ∉ wr ∧
          (∀ href : Heap, (∀ b o, s₄.heap.get? b = some o → href.get? b = some o) →
            QuietGenD X.prog X.w (genEnv scope (cloFrom X.env.cells scope.names []) s₄.heap.objs.size code bi X.env) x [] elt (List.range s₄.heap.objs.size) wr Pf pz F href (X.A.depth + 1) (X.A.units + 8)) ∧
          (∀ a h₅ tk gs, gs.bare = true → s₄.heap.objs.size < a → h₅.objs.size = a + 1 → (∀ b o, s₄.heap.get? b = some o → h₅.get? b = some o) →
            WalksS X.prog X.w X.A.in4 a (a :: s₄.heap.objs.size :: List.range s₄.heap.objs.size) (s₄.heap.objs.size :: wr) (GenOnlyQ s₄.gens.size) (passing pz n₀ 0).length
              (fun j y => ∃ i, (passing pz n₀ 0)[j]? = some i ∧ F i y) (GenAt X.prog X.w X.A.in4 a s₄.gens.size s₄.heap.objs.size (List.range s₄.heap.objs.size) wr pz n₀ F) →
            GenAt X.prog X.w X.A.in4 a s₄.gens.size s₄.heap.objs.size (List.range s₄.heap.objs.size) wr pz n₀ F 0 { s₄ with gens := s₄.gens.push gs, toks := tk, heap := h₅ } →
            Q' (.ref a) { s₄ with gens := s₄.gens.push gs, toks := tk, heap := h₅ })) X.xe { s1 with heap := h3, toks := tk } := by
    intro code h3 tk ps' hx hsz hP3 hmore ht3
    obtain ⟨bm, ob, e1, e2, e3, e4, e5, e6, e7, e8⟩ := TB.bm
    have hcP : cStatics ≠ P := fun e => by
      obtain ⟨_, hns, _⟩ := I1.nolimit
      obtain ⟨o', es, ep, ho, hd, _⟩ := hns
      rw [e, hPs] at ho
      cases ho
      cases hd
    have hcl : cStatics < s1.heap.objs.size := let ⟨_, hns, _⟩ := I1.nolimit; hns.lt
    have sz2 : (s1.heap.push o).objs.size = s1.heap.objs.size + 1 := Heap.size_push ..
    have keep3 : ∀ b u, b ≠ P → s1.heap.get? b = some u → h3.get? b = some u := fun b u hb e => hx b u hb (Heap.get?_push_of_some _ e)
    refine wpAny_builtinsFor (m := X.mg) (by rw [I1.ok.glob]; exact ((I1.mod.glob.keeps I1.bk).push o).extBut hx TB.gP) e1 e2 (keep3 _ _ e4 (I1.bk _ _ e5)) e6 e7 e8 ?_
    have hylP : yl ≠ P := fun z => by
      obtain ⟨_, e, hc1, _, hd1⟩ := _root_.id hIL
      rw [z, hPs] at e
      cases e
      cases hd1
    have hIL3 : h3.IsList yl its.toArray := by
      obtain ⟨ob, e, r⟩ := _root_.id hIL
      exact ⟨ob, keep3 _ _ hylP e, r⟩
    have hItr3 : h3.IsListIter s1.heap.objs.size yl 0 := hitr.at fun u e => hx _ u (Nat.ne_of_gt hPlt) e
    have szh : s1.heap.objs.size < h3.objs.size := by omega
    refine ⟨s1.heap.objs.size, [s1.heap.objs.size, yl], [s1.heap.objs.size], its.toArray.size, (fun i v => its.toArray[i]? = some v), (fun i h => h.IsListIter s1.heap.objs.size yl i ∧ h.IsList yl its.toArray), (fun _ => true),
      (fun i y => RR i y), rfl, (fun A' hA => Walks.list hA _ _ (Nat.ne_of_lt hylt) _), ⟨hItr3, hIL3⟩, ?_, lim2.extBut hx hcP, ?_, ?_, ?_⟩
    · intro b hb
      rcases List.mem_cons.mp hb with z | z
      · rw [z]; exact szh
      · rcases List.mem_cons.mp z with z | z
        · rw [z]; exact Nat.lt_trans hylt szh
        · cases z
    · intro z
      rcases List.mem_cons.mp z with z | z
      · exact Nat.ne_of_lt hcl z
      · cases z
    · intro href hhref
      refine ⟨fun A' E' i v s₂ m₂ hA _ _ hPv hn hm hk => ?_, fun A' E' i v s₂ m₂ hA hD hU hPv hp hn hm hk => ?_⟩
      · simp only [List.forIn_nil]
        exact wpAny_pure ⟨rfl, GxR.keeps_refl _⟩
      · have hv2 : its[i]? = some v := by simpa using hPv
        have hi2 : i < its.length := (List.getElem?_eq_some_iff.mp hv2).1
        obtain ⟨w, hw⟩ : ∃ w, ws[i]? = some w := ⟨ws[i]'(by omega), List.getElem?_eq_getElem _⟩
        obtain ⟨u, hu, ru⟩ := rv.get hw
        rw [hv2] at hu
        cases hu
        have all1 : ∀ b o, b ≠ P → s1.heap.get? b = some o → s₂.heap.get? b = some o := fun b o hb e => by
          have hl := Heap.lt_size e
          refine hk b (List.mem_range.mpr (Nat.lt_trans hl szh)) (fun z => ?_) o (hhref b o (keep3 b o hb e))
          rcases List.mem_cons.mp z with z | z
          · rw [z] at hl
            exact Nat.lt_irrefl _ hl
          · cases z
        have bs : ∀ b o, X.base.get? b = some o → s₂.heap.get? b = some o := fun b o e => all1 b o (fun z => by
          have := (I1.bs b o e).2
          rw [z, hP] at this
          cases this) (I1.bk b o e)
        refine hel pins σ H1 s1 I1 ⟨ps, hP⟩ w (RR i) (hCn i w hw) v ru h3.objs.size code A' hA hD hU E' s₂ ⟨⟨?_, ?_, ?_, ?_⟩, all1, m₂, hn, hm⟩
        · exact I1.mod.kin.keeps bs
        · exact I1.mod.glob.keeps bs
        · obtain ⟨mb, a, b⟩ := I1.mod.blt
          exact ⟨mb, a.keeps bs, b⟩
        · exact I1.mod.nolimit.keeps bs
    · intro g h5 tk5 gs hgb hag hsz5 hk5 W5 hgat
      simp only [GxR.passing_true, List.length_range] at W5
      have hn5 : its.toArray.size = ws.length := by rw [List.size_toArray, hlen]
      rw [hn5] at W5 hgat
      refine hQ ws RR H1 g _ q1 ⟨_, _, _, _, _, W5, hgat, ?_, fun s' hm => ?_⟩
      · intro j v hv
        obtain ⟨i, hij, hF⟩ := hv
        obtain ⟨hj, ej⟩ := List.getElem?_eq_some_iff.mp hij
        rw [List.getElem_range] at ej
        subst ej
        rw [List.length_range] at hj
        exact ⟨by omega, hF⟩
      · obtain ⟨more, em⟩ := hmore
        have nwr : ∀ b u, s1.heap.get? b = some u → b ∉ h3.objs.size :: [s1.heap.objs.size] := fun b u e hb => by
          have hl := Heap.lt_size e
          rcases List.mem_cons.mp hb with z | z
          · rw [z] at hl
            have h9 : (h3.objs.size : Nat) < s1.heap.objs.size := hl
            omega
          · rcases List.mem_cons.mp z with z | z
            · rw [z] at hl
              exact Nat.lt_irrefl _ hl
            · cases z
        have J := GxR.inv_tab (more := more) (h' := s'.heap) (g' := s'.gens) (d' := s'.drawn) (t' := s'.toks) I1 hP (fun b u hb e => hm.heap b u (nwr b u e) (hk5 b u (keep3 b u hb e)))
          (by rw [← em]; exact hm.heap P _ (nwr P _ hPs) (hk5 P _ hP3)) (AllBare.movedS (I1.bare.push hgb) hm)
        rw [GxR.sh_eta s1 s' hm.os] at J
        refine ⟨upd H1 P (.tbl (ps ++ more)), ⟨⟨ps ++ more, upd_same, by rw [← em]; exact ht3⟩, fun b hb => upd_ne hb⟩, J⟩
  refine ⟨lim2, ?_⟩
  cases hf : codeAmong gpos ps.toList with
  | none =>
    refine wpAny_genexprCodeX hcode (cd.code hP2 ht) (cd.tab hP2) hf fun c' h' tk hx hge hlt hco' _ htab' _ => ?_
    obtain ⟨o1, vs, f1, tf, fl, tg, inF, tx, tt, op, _, _, _, _, _, _, _, _, _, htr, _⟩ := hco'
    exact cont _ h' tk _ hx (Nat.le_trans hge (Nat.le_of_lt hlt)) htab'.2 ⟨_, rfl⟩ htr
  | some cv =>
    refine wpAny_genexprCode_hit hcode (cd.code hP2 ht) hf ?_
    exact cont cv (s1.heap.push o) s1.toks ps (Heap.ExtBut.refl _ _) (Nat.le_refl _) hP2 ⟨#[], by simp⟩ ht
/-- at place j -/
def trL (pb : V → Bool) (l : List V) (j : Nat) : Bool := match l[j]? with
  | some w => pb w
  | none => false
theorem all_trL (l : List V) (pb : V → Bool) : (List.range l.length).all (trL pb l) = l.all pb := by
  rw [Bool.eq_iff_iff, List.all_eq_true, List.all_eq_true]
  constructor
  · intro h b hb
    obtain ⟨j, hj, e⟩ := List.getElem_of_mem hb
    have q := h j (List.mem_range.mpr hj)
    unfold trL at q
    rw [List.getElem?_eq_getElem hj, e] at q
    exact q
  · intro h j hj
    have hj' := List.mem_range.mp hj
    unfold trL
    rw [List.getElem?_eq_getElem hj']
    exact h _ (List.getElem_mem hj')
/-- all(elt for x in e) -/
def tAllL (K : PySem.W.Frag) (P : Addr) (Cn : L2.St → Hp → V → (Value → Prop) → Prop) (te : TE) : TE := fun σ H Q => te σ H fun v H1 => ∃ (yl : Addr) (ws : List V) (pb : V → Bool), v = .ref yl ∧ SqL K H1 yl ws ∧ (∀ w ∈ ws, Cn σ H1 w (· = .bool (pb w))) ∧ GxR.TabG H1 P ∧ ∀ H2, GxR.Tabbed P H1 H2 → Q (.bl (ws.all pb)) H2
theorem pe_allL {c P : Addr} {elt iter : Expr} {x : Str} {px p pos gpos : Pos} {scope : Scope} {te : TE} {k : Nat} {Cn : L2.St → Hp → V → (Value → Prop) → Prop}
    (hr : Room k X.A) (hg : Gl X "all") (hm : X.mg "all" = none) (TB : GxR.TabB X.base X.mg c P) (hcode : X.env.code = .ref c) (S : GxR.GenS X.env scope x) (hi : PE X iter te) (hel : EltL X scope x P elt Cn)
    (hs : ∀ v, genFold iter X.env v = pure v)
    (he : starEach [.GeneratorExp elt [⟨.Name x px, iter, [], 0⟩] scope gpos] X.env = (false, eval (.GeneratorExp elt [⟨.Name x px, iter, [], 0⟩] scope gpos) X.env) :: starEach [] X.env := by rfl) :
    PE X (.Call (.Name "all" p) [.GeneratorExp elt [⟨.Name x px, iter, [], 0⟩] scope gpos] [] pos) (tAllL X.K P Cn te) := by
  refine ⟨fun pins s σ H Q I h => ?_⟩
  refine wpAny_Call_Name_kw (ld_blt I hg hm (by with_unfolding_all rfl : bootBuiltins "all" = some (.builtin "all")) ?_)
  refine PyProof.Rows.callWith_builtin1 ?_ he (by rfl)
  rw [he]
  show wpAny _ _ (spliced ((false, eval (.GeneratorExp elt [⟨.Name x px, iter, [], 0⟩] scope gpos) X.env) :: backTo pos (starEach [] X.env))) _ _ s
  refine Calls.spliced_cons (gen_any (Rst := fun ws RR H1 => ∃ pb : V → Bool, RR = (fun i y => ∀ w, ws[i]? = some w → y = .bool (pb w)) ∧ ∀ H2, GxR.Tabbed P H1 H2 → Q (.bl (ws.all pb)) H2) (Cn := fun σ H1 w R => ∃ b : Bool, (∀ y, y = .bool b → R y) ∧ Cn σ H1 w (· = .bool b)) hr TB hcode S hi ?_ hs I h ?_ fun ws RR H1 g s5 hR hG => ?_)
  · intro pins σ H s I hT w R hC u ru C code A h1 h2 h3
    obtain ⟨b, hb, hc⟩ := hC
    intro E s' hg
    exact wpAny_mono (hel pins σ H s I hT w _ hc u ru C code A h1 h2 h3 E s' hg) (fun y s'' r => ⟨hb y r.1, r.2⟩) fun _ _ e => e
  · rintro v H1 ⟨yl, ws, pb, rfl, hl, hC, hT, hq⟩
    exact ⟨yl, ws, _, rfl, hl, fun i w hw => ⟨pb w, fun y hy w' hw' => by rw [hw] at hw'; cases hw'; exact hy, hC w (List.mem_of_getElem? hw)⟩, hT, pb, rfl, hq⟩
  obtain ⟨fp, wr, G, F, St, W, hst, hF, hI⟩ := hG
  obtain ⟨pb, eRR, hq⟩ := hR
  refine Calls.spliced_nil ?_
  have W := W.in4_1
  refine call_all_walkS (W.self 0 _ _ _ hst ⟨g, fp, wr, G, _, F, St, trL pb ws, rfl, W, hst, ?_, fun s' hmv => ?_⟩)
  · intro j y sj Qj Ej hy hQj
    obtain ⟨hj, z⟩ := hF j y hy
    rw [eRR] at z
    rw [z _ (List.getElem?_eq_getElem hj)]
    have e : trL pb ws j = pb ws[j] := by
      unfold trL
      rw [List.getElem?_eq_getElem hj]
    rw [e] at hQj
    exact wpAny_truthy_bool hQj
  · obtain ⟨H2, hT, J⟩ := hI s' hmv
    refine ⟨.bl _, H2, J, rfl, ?_⟩
    rw [all_trL ws pb]
    exact hq H2 hT
end
end Ap


/-! KS: sets of tuples of ints, up to some thousand of them: in, add. -/
namespace Sx
open PySem PySem.Spec PyProof.Rows L2
/-- the masks that a set comes to -/
inductive Msk : Nat → Prop
  | a : Msk 7
  | b : Msk 31
  | c : Msk 127
  | d : Msk 511
  | e : Msk 2047
def marks (m : Nat) : Nat → Nat → Nat → Nat
  | 0, _, acc => acc
  | n + 1, i, acc => marks m n ((i * 5 + 1) % (m + 1)) (acc ||| 2 ^ i)
theorem lcgI_front (m : Nat) : ∀ (k i : Nat), lcgI m ((i * 5 + 1) % (m + 1)) k = lcgI m i (k + 1)
  | 0, _ => rfl
  | k + 1, i => congrArg (fun z => (z * 5 + 1) % (m + 1)) (lcgI_front m k i)
theorem marks_bit (m : Nat) : ∀ (n i acc j : Nat), (marks m n i acc).testBit j = true → acc.testBit j = true ∨ ∃ k, k < n ∧ lcgI m i k = j
  | 0, _, _, _, h => .inl h
  | n + 1, i, acc, j, h => by
    rcases marks_bit m n _ _ j h with g | ⟨k, hk, g⟩
    · rw [Nat.testBit_or, Bool.or_eq_true] at g
      rcases g with g | g
      · exact .inl g
      · rw [Nat.testBit_two_pow] at g
        exact .inr ⟨0, Nat.succ_pos n, of_decide_eq_true g⟩
    · exact .inr ⟨k + 1, Nat.succ_lt_succ hk, by rw [← lcgI_front]; exact g⟩
theorem marks_all {m : Nat} (hm : Msk m) : marks m (m + 1) 0 0 = 2 ^ (m + 1) - 1 := by
  cases hm <;> decide +kernel
def spin (m : Nat) : Nat → Nat → Nat
  | 0, i => i
  | n + 1, i => spin m n ((i * 5 + 1) % (m + 1))
theorem spin_lcg (m : Nat) : ∀ (n i : Nat), spin m n i = lcgI m i n
  | 0, _ => rfl
  | n + 1, i => (spin_lcg m n _).trans (lcgI_front m n i)
theorem spin_back {m : Nat} (hm : Msk m) : spin m (m + 1) 0 = 0 := by
  cases hm <;> decide +kernel

theorem zeroI (m : Nat) : ∀ k, lcgI m 0 k = lcgN m k
  | 0 => rfl
  | k + 1 => congrArg (fun z => (z * 5 + 1) % (m + 1)) (zeroI m k)
theorem hit0 {m j : Nat} (hm : Msk m) (hj : j ≤ m) : ∃ k, k ≤ m ∧ lcgN m k = j := by
  have q : (marks m (m + 1) 0 0).testBit j = true := by
    rw [marks_all hm, Nat.testBit_two_pow_sub_one]
    exact decide_eq_true (Nat.lt_succ_of_le hj)
  rcases marks_bit m _ _ _ j q with g | ⟨k, hk, g⟩
  · rw [Nat.zero_testBit] at g; cases g
  · exact ⟨k, Nat.le_of_lt_succ hk, (zeroI m k).symm.trans g⟩
theorem around {m : Nat} (hm : Msk m) (k : Nat) : lcgN m (m + 1 + k) = lcgN m k := by
  have z : lcgN m (m + 1) = 0 := by rw [← zeroI, ← spin_lcg]; exact spin_back hm
  have q := lcgN_add m (m + 1) k
  rw [z, zeroI] at q
  exact q.symm
/-- from i on j comes within a turn -/
theorem hitI {m i j : Nat} (hm : Msk m) (hi : i ≤ m) (hj : j ≤ m) : ∃ k, k ≤ m ∧ lcgI m i k = j := by
  obtain ⟨u, hu, rfl⟩ := hit0 hm hi
  obtain ⟨v, hv, rfl⟩ := hit0 hm hj
  by_cases c : u ≤ v
  · exact ⟨v - u, by omega, by rw [lcgN_add, Nat.add_sub_cancel' c]⟩
  · refine ⟨m + 1 + v - u, by omega, ?_⟩
    rw [lcgN_add, Nat.add_sub_cancel' (by omega), around hm]
/-- the j-th slot begins a run soon -/
theorem begins {m j : Nat} (hm : Msk m) (h : Int) (hj : j ≤ m) : ∃ n, n < SetTable.turns m ∧ runI m (SetTable.bits h) n = j := by
  have le := runI_le m (SetTable.bits h) 12
  obtain ⟨k, hk, g⟩ := hitI hm le hj
  exact ⟨12 + k, by unfold SetTable.turns; omega, (runI_tail (bits_lt h) k).trans g⟩
theorem way_in (m : Nat) (h : Int) (k : Nat) : way m h k ≤ m := by
  have lt : SetTable.bits h % (m + 1) < m + 1 := Nat.mod_lt _ (Nat.succ_pos m)
  have rb := runEnd_bd (Nat.le_of_lt_succ lt)
  have st : (runAt m (SetTable.bits h % (m + 1)) (SetTable.bits h)).j + (runAt m (SetTable.bits h % (m + 1)) (SetTable.bits h)).more ≤ m := by
    show SetTable.bits h % (m + 1) + (SetTable.runEnd m (SetTable.bits h % (m + 1)) - SetTable.bits h % (m + 1)) ≤ m
    omega
  exact Nat.le_trans (Nat.le_add_right _ _) (nth_in k _ st)
/-- a place that is left on the way, the first one; N runs lead there -/
theorem first_left {m : Nat} (hm : Msk m) (h : Int) (taken : Nat → Prop) {j : Nat} (hj : j ≤ m) (free : ¬ taken j) :
    ∃ K n, n < SetTable.turns m ∧ K ≤ off m (SetTable.bits h % (m + 1)) (SetTable.bits h) n ∧ K ≤ 10 * n ∧ ¬ taken (way m h K) ∧ ∀ k, k < K → taken (way m h k) := by
  obtain ⟨n, hn, g⟩ := begins hm h hj
  obtain ⟨k, hk, g2⟩ := run_nth m (SetTable.bits h) n
  have at1 : way m h k = j := by
    show (nth m (runAt m _ _) k).j = j
    rw [g2]; exact g
  have at2 : way m h (off m (SetTable.bits h % (m + 1)) (SetTable.bits h) n) = j := by
    show (nth m (runAt m _ _) _).j = j
    rw [nth_off, itL_run]; exact g
  obtain ⟨K, a, b, c⟩ := st_least (p := fun k => ¬ taken (way m h k)) k (by rw [show way m h k = j from at1]; exact free)
  refine ⟨K, n, hn, Nat.le_of_not_lt fun z => c _ z (by rw [at2]; exact free), Nat.le_trans a hk, b, fun k' hk' => ?_⟩
  exact Classical.byContradiction (c k' hk')

/-! ### all laid anew -/
theorem put_self {ow : Array (Option Nat)} {z : Nat} (v : Nat) (hz : z < ow.size) : oAt (ow.setIfInBounds z (some v)) z = some v := oAt_set_self _ hz
theorem own_more {m : Nat} (hm : Msk m) {ds : List Int} {ow : Array (Option Nat)} (W : Own m ds ow) (few : ds.length ≤ m) (h : Int) :
    ∃ z, SetTable.layClean.free m ow (SetTable.turns m) (SetTable.bits h % (m + 1)) (SetTable.bits h) = some z ∧ Own m (ds ++ [h]) (ow.setIfInBounds z (some ds.length)) := by
  obtain ⟨ps, pl, pin⟩ := W.ps
  obtain ⟨y, yl, yn⟩ := st_missing ps (m + 1) (by omega)
  have yf : ¬ oAt ow y ≠ none := fun c => yn (pin y (Nat.le_of_lt_succ yl) c)
  obtain ⟨K, n, hn, hK, _, fr, oc⟩ := first_left hm h (fun j => oAt ow j ≠ none) (Nat.le_of_lt_succ yl) yf
  have fr : oAt ow (way m h K) = none := Classical.byContradiction fr
  have g := free_spec m ow (SetTable.turns m) n (SetTable.bits h % (m + 1)) (SetTable.bits h) K hn hK
    (fun k hk => by
      cases e : oAt ow (nth m (runAt m (SetTable.bits h % (m + 1)) (SetTable.bits h)) k).j with
      | some _ => rfl
      | none => exact absurd e (oc k hk)) (by show (oAt ow (way m h K)).isNone = true; rw [fr]; rfl)
  refine ⟨way m h K, g, ?_⟩
  have inb : way m h K < ow.size := by rw [W.sz]; exact Nat.lt_succ_of_le (way_in m h K)
  have self := put_self ds.length inb
  have still : ∀ z, oAt ow z ≠ none → oAt (ow.setIfInBounds (way m h K) (some ds.length)) z ≠ none := fun z hz => by
    by_cases c : z = way m h K
    · subst c; rw [self]; exact Option.some_ne_none _
    · rw [oAt_set_ne _ c]; exact hz
  constructor
  · rw [Array.size_setIfInBounds]; exact W.sz
  · intro z v hz e
    by_cases c : z = way m h K
    · subst c
      rw [self] at e
      cases e
      exact ⟨h, K, by simp, rfl, fun k hk => still _ (oc k hk)⟩
    · rw [oAt_set_ne _ c] at e
      obtain ⟨h2, K2, r1, r2, r3⟩ := W.at_ z v hz e
      have lt := (List.getElem?_eq_some_iff.mp r1).1
      exact ⟨h2, K2, by rw [List.getElem?_append_left lt, r1], r2, fun k hk => still _ (r3 k hk)⟩
  · intro v hv
    by_cases c : v = ds.length
    · subst c
      exact ⟨_, way_in m h K, self⟩
    · obtain ⟨z, hz, e⟩ := W.all v (by simp at hv; omega)
      exact ⟨z, hz, by rw [oAt_set_ne _ fun q => by rw [q, fr] at e; cases e]; exact e⟩
  · refine ⟨way m h K :: ps, by simp [pl], fun z hz e => ?_⟩
    by_cases c : z = way m h K
    · rw [c]; exact List.mem_cons_self
    · rw [oAt_set_ne _ c] at e
      exact List.mem_cons_of_mem _ (pin z hz e)
theorem own_all {m : Nat} (hm : Msk m) : ∀ (rs ds : List Int) (ow : Array (Option Nat)), Own m ds ow → ds.length + rs.length ≤ m →
    ∃ ow', rs.foldl (stepF m) (some (ow, ds.length)) = some (ow', (ds ++ rs).length) ∧ Own m (ds ++ rs) ow'
  | [], ds, ow, W, _ => by rw [List.append_nil]; exact ⟨ow, rfl, W⟩
  | h :: rs, ds, ow, W, few => by
    simp only [List.length_cons] at few
    obtain ⟨z, e, W2⟩ := own_more hm W (by omega) h
    have len : (ds ++ [h]).length = ds.length + 1 := by simp
    obtain ⟨ow', f, W3⟩ := own_all hm rs _ _ W2 (by omega)
    rw [len, List.append_assoc] at f
    rw [List.append_assoc] at W3
    exact ⟨ow', by rw [List.foldl_cons, stepF_some e]; exact f, W3⟩
theorem clean {m : Nat} (hm : Msk m) {hs : Array Int} (few : hs.size ≤ m) : ∃ ow, SetTable.layClean m hs = some ow ∧ Own m hs.toList ow := by
  obtain ⟨ow, f, W⟩ := own_all hm hs.toList [] _ (Own.init m) (by simpa using few)
  refine ⟨ow, ?_, W⟩
  rw [layClean_eq]
  simp only [List.length_nil] at f
  rw [f]; rfl
/-- each hash is found again on its way -/
structure Laid (t : SetTable) (hs : List Int) : Prop where
  up : Ris t.place.toList
  nod : t.dummies = #[]
  cnt : t.place.size = hs.length
  msk : Msk t.mask
  near : ∀ (i : Nat) (h : Int) (j : Nat), hs[i]? = some h → t.place.toList[i]? = some j → ∃ k, way t.mask h k = j ∧ ∀ k', k' < k → way t.mask h k' ∈ t.place.toList
theorem anew (t : SetTable) {hs : Array Int} {wish M : Nat} (hw : SetTable.sizeAbove wish - 1 = M) (hM : Msk M) (few : hs.size ≤ M) :
    ∃ t' od, t.relaid hs wish = some (t', od) ∧ od.toList.Perm (List.range hs.size) ∧ Laid t' (od.toList.map fun i => hs.getD i 0) ∧ t'.mask = M ∧ t'.led = t.led ∧ t'.plain = t.plain := by
  obtain ⟨ow, e, W⟩ := clean hM few
  have eR : t.relaid hs wish = some (tabOf t M ow, ((liveOf M ow).map (·.2)).toArray) := by
    rw [relaid_eq, hw, e]; rfl
  obtain ⟨up, _⟩ := ris_live (fun j => ow.getD j none) (List.range (M + 1)) List.pairwise_lt_range
  have up : Ris ((liveOf M ow).map (·.1)) := up
  have num : (liveOf M ow).length = hs.size := by
    obtain ⟨ps, pl, pin⟩ := W.ps
    have le1 : ((liveOf M ow).map (·.1)).length ≤ ps.length := by
      refine nat_nodup_len _ _ (up.imp Nat.ne_of_lt) fun z hz => ?_
      obtain ⟨⟨z', v⟩, hq, rfl⟩ := List.mem_map.mp hz
      obtain ⟨a, b⟩ := (mem_live W.sz).mp hq
      exact pin _ a (by rw [b]; exact Option.some_ne_none _)
    have le2 : (List.range hs.size).length ≤ ((liveOf M ow).map (·.2)).length := by
      refine nat_nodup_len _ _ List.nodup_range fun v hv => ?_
      obtain ⟨z, a, b⟩ := W.all v (by simpa using hv)
      exact List.mem_map.mpr ⟨(z, v), (mem_live W.sz).mpr ⟨a, b⟩, rfl⟩
    simp at le1 le2 pl
    omega
  refine ⟨_, _, eR, perm_range _ _ (by simpa using num) fun v hv => ?_, ⟨up, rfl, by simp [tabOf], hM, fun i h j e1 e2 => ?_⟩, rfl, rfl, rfl⟩
  · obtain ⟨z, a, b⟩ := W.all v (by simpa using hv)
    exact List.mem_map.mpr ⟨(z, v), (mem_live W.sz).mpr ⟨a, b⟩, rfl⟩
  · have e1 : ((liveOf M ow).map fun q => hs.getD q.2 0)[i]? = some h := by simpa using e1
    have e2 : ((liveOf M ow).map (·.1))[i]? = some j := e2
    rw [List.getElem?_map] at e1 e2
    obtain ⟨⟨z, v⟩, hq, rfl⟩ := Option.map_eq_some_iff.mp e2
    rw [hq] at e1
    cases e1
    obtain ⟨a, b⟩ := (mem_live W.sz).mp (List.mem_of_getElem? hq)
    obtain ⟨h2, K, r1, r2, r3⟩ := W.at_ z v a b
    have eh : hs.getD v 0 = h2 := by
      rw [Array.getD_eq_getD_getElem?, ← Array.getElem?_toList, r1]; rfl
    refine ⟨K, by rw [← r2]; exact congrArg (fun q => way M q K) eh, fun k hk => ?_⟩
    show way M (hs.getD v 0) k ∈ (liveOf M ow).map (·.1)
    rw [eh]
    obtain ⟨v2, e3⟩ := Option.ne_none_iff_exists'.mp (r3 k hk)
    exact List.mem_map.mpr ⟨(_, v2), (mem_live W.sz).mpr ⟨way_in M h2 k, e3⟩, rfl⟩

theorem Laid.gap {t : SetTable} {hs : List Int} (T : Laid t hs) (few : hs.length ≤ t.mask) (h : Int) : ∃ K, K < 10 * SetTable.turns t.mask ∧ way t.mask h K ∉ t.place.toList ∧ ∀ k, k < K → way t.mask h k ∈ t.place.toList := by
  obtain ⟨j, hj, nj⟩ := st_missing t.place.toList (t.mask + 1) (by have := T.cnt; simp; omega)
  obtain ⟨K, n, hn, _, hK, a, b⟩ := first_left T.msk h (· ∈ t.place.toList) (Nat.le_of_lt_succ hj) nj
  exact ⟨K, by omega, a, b⟩
theorem Laid.ahead {t : SetTable} {hs : List Int} (T : Laid t hs) {h : Int} {K i : Nat} (gap : way t.mask h K ∉ t.place.toList) (hi : hs[i]? = some h) : ∃ k, k < K ∧ t.place.toList[i]? = some (way t.mask h k) := by
  have lt : i < t.place.toList.length := by
    have := (List.getElem?_eq_some_iff.mp hi).1
    rw [Array.length_toList, T.cnt]; exact this
  have at_ := List.getElem?_eq_getElem lt
  obtain ⟨k, ek, bk⟩ := T.near i h _ hi at_
  refine ⟨k, Nat.lt_of_not_le fun z => ?_, by rw [ek]; exact at_⟩
  rcases Nat.lt_or_eq_of_le z with z | z
  · exact gap (bk K z)
  · rw [z, ek] at gap
    exact gap (List.mem_of_getElem? at_)
/-- one more, at the first gap of its way -/
theorem Laid.more {t : SetTable} {hs : List Int} (T : Laid t hs) {h : Int} {K : Nat} (gap : way t.mask h K ∉ t.place.toList) (oc : ∀ k, k < K → way t.mask h k ∈ t.place.toList) :
    (t.put (way t.mask h K)).2 = SetTable.below t.place (way t.mask h K) ∧ SetTable.below t.place (way t.mask h K) ≤ hs.length ∧
    Laid (t.put (way t.mask h K)).1 (hs.take (SetTable.below t.place (way t.mask h K)) ++ h :: hs.drop (SetTable.below t.place (way t.mask h K))) ∧ (t.put (way t.mask h K)).1.fill = hs.length + 1 := by
  generalize ez : way t.mask h K = z at gap ⊢
  obtain ⟨bl, _, _⟩ := below_cut T.up z
  have bh : SetTable.below t.place z ≤ hs.length := T.cnt ▸ bl
  have bp : SetTable.below t.place z ≤ t.place.toList.length := by rw [Array.length_toList]; exact bl
  have pl := put_place t z
  have np : t.place[SetTable.below t.place z]? ≠ some z := fun q => gap (List.mem_of_getElem? ((Array.getElem?_toList ..).trans q))
  have sz : (t.put z).1.place.size = hs.length + 1 := by
    rw [← Array.length_toList, pl, len_ins _ bp, Array.length_toList, T.cnt]
  have dm := put_dm T.nod z
  have still : ∀ y, y ∈ t.place.toList → y ∈ (t.put z).1.place.toList := fun y hy => by rw [pl]; exact mem_ins.mpr (.inr hy)
  refine ⟨rfl, bh, ⟨ris_insert T.up np, dm, by rw [len_ins _ bh]; exact sz, T.msk, fun i h' j e1 e2 => ?_⟩, ?_⟩
  · have cut : ∀ i', hs[i']? = some h' → t.place.toList[i']? = some j → ∃ k, way t.mask h' k = j ∧ ∀ k', k' < k → way t.mask h' k' ∈ (t.put z).1.place.toList := fun i' a b => by
      obtain ⟨k, ek, bk⟩ := T.near i' h' j a b
      exact ⟨k, ek, fun k' hk' => still _ (bk k' hk')⟩
    rw [tins_get hs bh] at e1
    rw [pl, tins_get _ bp] at e2
    show ∃ k, way t.mask h' k = j ∧ _
    split at e1
    · rename_i c
      rw [if_pos c] at e2
      exact cut _ e1 e2
    · rename_i c
      rw [if_neg c] at e2
      split at e1
      · rename_i d
        rw [if_pos d] at e2
        cases e1
        cases e2
        exact ⟨K, ez, fun k hk => still _ (oc k hk)⟩
      · rename_i d
        rw [if_neg d] at e2
        exact cut _ e1 e2
  · show (t.put z).1.place.size + (t.put z).1.dummies.size = _
    rw [sz, dm]; rfl
/-! ### the set at a -/
structure SetP (P : Program) (w : World) (h : Heap) (a : Addr) (L : List (Addr × List Int)) (es : Array (Int × Value)) (ep : Nat) (t : SetTable) : Prop where
  ob : ∃ o, h.get? a = some o ∧ o.ExactSet ∧ o.data = .set es ep t
  rows : es.toList = rowsOf P w L
  tab : Laid t (L.map fun p => thash P w p.2)
  one : (L.map (·.2)).Nodup
  pln : t.plain = true
  led : w.params.followText "set-order" = true ∨ t.led = true
  wide : L.length * 5 < t.mask * 3
  few : L.length ≤ 1000
section
variable {P : Program} {w : World} {A : Around} {E : Value → Shared → Prop} {s : Shared} {a : Addr} {L : List (Addr × List Int)} {es : Array (Int × Value)} {ep : Nat} {t : SetTable}
theorem rows_len {es : Array (Int × Value)} (h : es.toList = rowsOf P w L) : es.size = L.length := by
  rw [← Array.length_toList, h]; exact List.length_map ..
theorem fits_of {t : SetTable} {n : Nat} (h1 : t.place.size = n) (h2 : t.dummies = #[]) (h3 : n ≤ t.mask) : t.fits n = true := by
  simp [SetTable.fits, SetTable.fill, h1, h2, h3]
theorem SetP.fits (R : SetP P w s.heap a L es ep t) : t.fits es.size = true := by
  have c := R.tab.cnt
  have z := R.wide
  rw [List.length_map] at c
  rw [rows_len R.rows]
  exact fits_of c R.tab.nod (by omega)
theorem SetP.at_ (R : SetP P w s.heap a L es ep t) {i : Nat} {p : Addr × List Int} (h : L[i]? = some p) : es[i]? = some (thash P w p.2, Value.ref p.1) := by
  rw [← Array.getElem?_toList, R.rows, rowsOf, List.getElem?_map, h]; rfl
theorem SetP.firm (R : SetP P w s.heap a L es ep t) : ¬ t.gaveWay = true := by
  have : ∀ m, Msk m → ¬ (m % 2 == 0) = true := fun m hm => by cases hm <;> decide
  exact this _ R.tab.msk
theorem nth_free (m : Nat) : ∀ (n : Nat) (p : SetTable.Probe), p.dummy = none → (nth m p n).dummy = none
  | 0, _, h => h
  | n + 1, p, h => nth_free m n (adv m p) (by unfold adv; split <;> exact h)
/-- a search, from the c-th step of the key's way on -/
theorem seek (R : SetP P w s.heap a L es ep t) (tup : ∀ p ∈ L, IsT P w s.heap p.2 p.1) {x : Addr} {k : List Int} (hx : IsT P w s.heap k x) (hu : A.units < cLine) (ad : Bool) {st : SetTable.Probe} (est : st = runAt t.mask (SetTable.bits (thash P w k) % (t.mask + 1)) (SetTable.bits (thash P w k)))
    {K : Nat} (lt : K < 10 * SetTable.turns t.mask) (gap : (nth t.mask st K).j ∉ t.place.toList) (oc : ∀ c, c < K → (nth t.mask st c).j ∈ t.place.toList) {Q : SetFound → Shared → Prop}
    (yes : k ∈ L.map (·.2) → ∀ i, Q (.there (if ad = true then none else some i)) s) (no : k ∉ L.map (·.2) → Q (.free (nth t.mask st K).j false) s) :
    ∀ (f c : Nat) (go : Option SetTable.Probe), go.getD (t.probeStart (thash P w k)) = nth t.mask st c → c ≤ K → K - c < f →
      (∀ (i : Nat) p, L[i]? = some p → p.2 = k → ∃ c', c ≤ c' ∧ c' < K ∧ t.place.toList[i]? = some (nth t.mask st c').j) →
      wpAny (model P w) A (setSearchFrom a (.ref x) (thash P w k) ad f go) Q E s
  | 0, _, _, _, _, z, _ => absurd z (Nat.not_lt_zero _)
  | f + 1, c, go, ego, hc, hf, left => by
    obtain ⟨o, ho, hex, hd⟩ := R.ob
    rw [setSearchFrom_succ]
    refine wpAny_bind (wpAny_setState_of ho hd R.fits ?_)
    dsimp only
    refine wp_if_neg R.firm ?_
    try refine wpAny_bind (wpAny_pure ?_)
    have sh : ∀ q, nth t.mask (nth t.mask st c) q = nth t.mask st (c + q) := fun q => (nth_add t.mask c st q).symm
    have eK : c + (K - c) = K := Nat.add_sub_cancel' hc
    have free := nth_free t.mask c st (by rw [est]; rfl)
    have hA : ∀ {i : Nat} {p : Addr × List Int}, L[i]? = some p → (fun i => (es[i]?.map (·.1)).getD 0) i = thash P w p.2 := fun {i p} hp => by
      simp only [R.at_ hp]; rfl
    have spec := go_spec t R.tab.up R.tab.nod (fun i => (es[i]?.map (·.1)).getD 0) (thash P w k) (10 * SetTable.turns t.mask) (K - c) (nth t.mask st c) free (by omega)
      (fun q hq => by rw [sh]; exact oc _ (by omega)) (by rw [sh, eK]; exact gap)
    have pass : ∀ {q i0 : Nat} {p0 : Addr × List Int}, (∀ (k' i' : Nat), k' < q → t.place.toList[i']? = some (nth t.mask (nth t.mask st c) k').j → (es[i']?.map (·.1)).getD 0 ≠ thash P w k) → L[i0]? = some p0 → p0.2 = k →
        ∃ c', c + q ≤ c' ∧ c' < K ∧ t.place.toList[i0]? = some (nth t.mask st c').j := fun {q i0 p0} none h0 hk => by
      obtain ⟨c', l1, l2, l3⟩ := left i0 p0 h0 hk
      refine ⟨c', Nat.le_of_not_lt fun z => ?_, l2, l3⟩
      exact none (c' - c) i0 (by omega) (by rw [sh, Nat.add_sub_cancel' l1]; exact l3) ((hA h0).trans (by rw [hk]))
    rcases spec with ⟨q, i, hq, hi, _, nun, met⟩ | ⟨nun, met⟩
    · have met : t.probe (fun i => (es[i]?.map (·.1)).getD 0) (thash P w k) (go.getD (t.probeStart (thash P w k))) = some (.candidate (nth t.mask st (c + q)).j i (nth t.mask st (c + (q + 1)))) := by
        rw [ego, ← sh, ← sh]; exact met
      rw [met]
      dsimp only
      rw [sh] at hi
      have il : i < L.length := by
        have z := (List.getElem?_eq_some_iff.mp hi).1
        have c := R.tab.cnt
        simp at c z
        omega
      obtain ⟨p, hp⟩ : ∃ p, L[i]? = some p := ⟨_, List.getElem?_eq_getElem il⟩
      have pin := List.mem_of_getElem? hp
      have live : t.slot (nth t.mask st (c + q)).j = .live i := slot_live R.tab.up hi
      have behind : wpAny (model P w) A (searchRest a (.ref x) (thash P w k) ad f es t (nth t.mask st (c + q)).j i (nth t.mask st (c + (q + 1)))) Q E s := by
        unfold searchRest
        rw [R.at_ hp]
        dsimp only
        refine wpAny_bind (wpAny_holding (wpAny_eqBool_tuple hu (tup p pin) hx ?_))
        refine wpAny_bind (wpAny_setState_of ho hd R.fits ?_)
        dsimp only
        by_cases same : p.2 = k
        · have there := yes (List.mem_map.mpr ⟨p, pin, same⟩) i
          cases ad with
          | true =>
            refine wp_if_pos (by simp [same]) ?_
            exact wpAny_pure there
          | false =>
            refine wp_if_neg (by simp) ?_
            try refine wpAny_bind (wpAny_pure ?_)
            rw [sameMem]
            dsimp only
            simp only [if_true, live, R.at_ hp]
            refine wpAny_bind (wpAny_isSame_ref_self (wpAny_bind (wpAny_pure ?_)))
            simp only [if_true]
            refine wp_if_pos (by simp [same]) ?_
            exact wpAny_pure there
        · refine wp_if_neg (by simp [same]) ?_
          try refine wpAny_bind (wpAny_pure ?_)
          rw [sameMem]
          dsimp only
          simp only [if_true, live, R.at_ hp]
          refine wpAny_bind (wpAny_isSame_ref_self (wpAny_bind (wpAny_pure ?_)))
          simp only [if_true]
          refine wp_if_neg (by simp [same]) ?_
          refine seek R tup hx hu ad est lt gap oc yes no f (c + (q + 1)) _ rfl (by omega) (by omega) fun i0 p0 h0 hk => ?_
          obtain ⟨c', l1, l2, l3⟩ := pass nun h0 hk
          refine ⟨c', Nat.lt_of_le_of_ne l1 fun z => ?_, l2, l3⟩
          rw [← z] at l3
          have e := live.symm.trans (slot_live R.tab.up l3)
          cases e
          rw [hp] at h0
          cases h0
          exact same hk
      by_cases hl : t.led = true
      · refine wp_if_neg (by simp [hl]) ?_
        try refine wpAny_bind (wpAny_pure ?_)
        exact behind
      · refine wp_if_pos (by simp [hl]) ?_
        refine wpAny_bind (seen_tup hx (fun y hy => ?_) (wp_if_neg (by decide) ?_))
        · obtain ⟨e, he, rfl⟩ := List.mem_map.mp hy
          have he : e ∈ es.toList := by simp at he; simpa using he.1
          rw [R.rows] at he
          obtain ⟨p2, h2, rfl⟩ := List.mem_map.mp he
          exact ⟨p2.2, p2.1, rfl, tup p2 h2⟩
        · try refine wpAny_bind (wpAny_pure ?_)
          exact behind
    · have met : t.probe (fun i => (es[i]?.map (·.1)).getD 0) (thash P w k) (go.getD (t.probeStart (thash P w k))) = some (.empty (nth t.mask st K).j none) := by
        rw [sh, eK] at met
        rw [ego]; exact met
      rw [met]
      dsimp only
      refine wpAny_pure (no fun hm => ?_)
      obtain ⟨p0, h0, hk⟩ := List.mem_map.mp hm
      obtain ⟨i0, hi0, e0⟩ := List.getElem_of_mem h0
      obtain ⟨c', l1, l2, _⟩ := pass nun ((List.getElem?_eq_getElem hi0).trans (congrArg some e0)) hk
      omega

theorem search_b (R : SetP P w s.heap a L es ep t) (tup : ∀ p ∈ L, IsT P w s.heap p.2 p.1) {x : Addr} {k : List Int} (hx : IsT P w s.heap k x) (hu : A.units < cLine) (ad : Bool) {Q : SetFound → Shared → Prop}
    (yes : k ∈ L.map (·.2) → ∀ i, Q (.there (if ad = true then none else some i)) s)
    (no : ∀ K, k ∉ L.map (·.2) → way t.mask (thash P w k) K ∉ t.place.toList → (∀ c, c < K → way t.mask (thash P w k) c ∈ t.place.toList) → Q (.free (way t.mask (thash P w k) K) false) s) :
    wpAny (model P w) A (setSearch a (.ref x) (thash P w k) ad) Q E s := by
  have z := R.wide
  have z2 := R.few
  obtain ⟨K, lt, gap, oc⟩ := R.tab.gap (by rw [List.length_map]; omega) (thash P w k)
  have small : K < 100000 := by
    have : ∀ m, Msk m → 10 * SetTable.turns m < 100000 := fun m hm => by cases hm <;> decide
    exact Nat.lt_trans lt (this _ R.tab.msk)
  refine seek R tup hx hu ad rfl lt gap oc yes (fun n => no K n gap oc) 100000 0 none rfl (Nat.zero_le K) small fun i p hp hk => ?_
  obtain ⟨c, l, e⟩ := R.tab.ahead gap (i := i) (h := thash P w k) (by rw [List.getElem?_map, hp, ← hk]; rfl)
  exact ⟨c, Nat.zero_le c, l, e⟩
theorem grown_mask {m n : Nat} (hm : Msk m) (few : n ≤ 1000) (h1 : n * 5 < m * 3) (h2 : ¬ (n + 1) * 5 < m * 3) : ∃ M, SetTable.sizeAbove (SetTable.grown (n + 1)) - 1 = M ∧ Msk M ∧ SetTable.sizeAbove (SetTable.grown (n + 1)) ≤ 2048 ∧ (n + 1) * 5 < M * 3 := by
  cases hm with
  | a =>
    obtain rfl : n = 4 := by omega
    exact ⟨31, by decide +kernel, .b, by decide +kernel, by decide⟩
  | b =>
    obtain rfl : n = 18 := by omega
    exact ⟨127, by decide +kernel, .c, by decide +kernel, by decide⟩
  | c =>
    obtain rfl : n = 76 := by omega
    exact ⟨511, by decide +kernel, .d, by decide +kernel, by decide⟩
  | d =>
    obtain rfl : n = 306 := by omega
    exact ⟨2047, by decide +kernel, .e, by decide +kernel, by decide⟩
  | e => omega
theorem relay_b {o : Obj} (ho : s.heap.get? a = some o) (hex : o.ExactSet) (hd : o.data = .set es ep t) (rows : es.toList = rowsOf P w L) (cnt : t.place.size = es.size) (nod : t.dummies = #[]) (inn : es.size ≤ t.mask)
    (one : (L.map (·.2)).Nodup) (pln : t.plain = true) (led : w.params.followText "set-order" = true ∨ t.led = true) (few : L.length ≤ 1000) {wish M : Nat} (hw : SetTable.sizeAbove wish - 1 = M) (hM : Msk M) (hw2 : SetTable.sizeAbove wish ≤ 2048) (wide : L.length * 5 < M * 3)
    {Q : Unit → Shared → Prop} (q : ∀ h' L' es' ep' t', Heap.SameBut a s.heap h' → SetP P w h' a L' es' ep' t' → L'.Perm L → Q () { s with heap := h' }) : wpAny (model P w) A (setRelay a wish) Q E s := by
  have len := rows_len rows
  obtain ⟨t', od, eR, pm, T, e1, e2, e3⟩ := anew t (hs := es.map (·.1)) hw hM (by simp; omega)
  simp only [Array.size_map, len] at pm
  obtain ⟨L2, r1, r2, r3⟩ := order_rows L es od rows pm
  have len2 : (od.filterMap (es[·]?)).size = es.size := by rw [rows_len r1, r2.length_eq, len]
  rw [setRelay_eq]
  refine wpAny_bind (wpAny_setState_of ho hd (fits_of cnt nod inn) ?_)
  dsimp only
  refine wp_if_neg (by rw [sizeLine_eq]; omega) ?_
  try refine wpAny_bind (wpAny_pure ?_)
  rw [eR]
  dsimp only
  refine wpAny_bind (wp_if_neg (by simp [len2]) ?_)
  try refine wpAny_bind (wpAny_pure ?_)
  refine wpAny_pure ?_
  dsimp only
  refine wpAny_storeSet_of ho hd ?_ (by rw [len2, len, sizeLine_eq]; omega)
  refine q _ L2 _ (ep + 1) t' (Heap.SameBut.update ..) ⟨⟨_, store_at ho hd, ⟨hex.1, hex.2.1, hex.2.2⟩, rfl⟩, r1, by rw [r3]; exact T, (r2.map (·.2)).nodup_iff.mpr one, e3.trans pln, ?_, ?_, r2.length_eq ▸ few⟩ r2
  · rw [e2]; exact led
  · rw [e1, r2.length_eq]; exact wide
/-- a tuple is put in -/
theorem add_b (R : SetP P w s.heap a L es ep t) (tup : ∀ p ∈ L, IsT P w s.heap p.2 p.1) {x : Addr} {k : List Int} (hx : IsT P w s.heap k x) (hu : A.units < cLine) (few : L.length + 1 ≤ 1000) {Q : Bool → Shared → Prop}
    (q : ∀ b h' L' es' ep' t', Heap.SameBut a s.heap h' → SetP P w h' a L' es' ep' t' → (k ∈ L.map (·.2) → L' = L) → (k ∉ L.map (·.2) → L'.Perm ((x, k) :: L)) → Q b { s with heap := h' }) :
    wpAny (model P w) A (setAddHashed a (.ref x) (thash P w k)) Q E s := by
  obtain ⟨o, ho, hex, hd⟩ := R.ob
  have len := rows_len R.rows
  have z := R.wide
  refine wpAny_holding ?_
  rw [show (100000 : Nat) = Nat.succ 99999 from rfl, setAddHashedIn_succ]
  refine wpAny_bind (wpAny_setState_of ho hd R.fits ?_)
  dsimp only
  refine wp_if_neg (by simp [Value.scannable, byScan]) ?_
  try refine wpAny_bind (wpAny_pure ?_)
  refine wpAny_bind (search_b R tup hx hu true (fun m _ => wpAny_pure (q false s.heap L es ep t (Heap.SameBut.refl _ _) R (fun _ => rfl) fun n => absurd m n)) fun K n gap oc => ?_)
  dsimp only
  refine wpAny_bind (wpAny_setState_of ho hd R.fits ?_)
  dsimp only
  obtain ⟨q1, q2, q3, q4⟩ := R.tab.more gap oc
  have g1 : (t.put (way t.mask (thash P w k) K)).1.plain = true := R.pln
  have g2 : (t.put (way t.mask (thash P w k) K)).1.led = t.led := rfl
  have g3 : (t.put (way t.mask (thash P w k) K)).1.mask = t.mask := rfl
  rw [List.length_map] at q2 q4
  generalize t.put (way t.mask (thash P w k) K) = pt at *
  obtain ⟨t1, p⟩ := pt
  dsimp only at *
  subst q1
  first
    | (refine wpAny_bind ?_; refine wp_if_pos g1 ?_; refine hashBy_tup hx ?_)
    | refine wp_if_pos g1 (wpAny_bind (hashBy_tup hx ?_))
  simp only [if_true]
  generalize SetTable.below t.place (way t.mask (thash P w k) K) = p at *
  have rows : (SetTable.insertAt es p (thash P w k, Value.ref x)).toList = rowsOf P w (L.take p ++ (x, k) :: L.drop p) := by
    rw [rows_put, ← R.rows]; exact SetTable.toList_insertAt ..
  have pm := put_perm L p (x, k)
  have T : Laid t1 ((L.take p ++ (x, k) :: L.drop p).map fun p => thash P w p.2) := by
    rw [List.map_append, List.map_cons, List.map_take, List.map_drop]; exact q3
  have one : ((L.take p ++ (x, k) :: L.drop p).map (·.2)).Nodup := (pm.map (·.2)).nodup_iff.mpr (List.nodup_cons.mpr ⟨n, R.one⟩)
  generalize SetTable.insertAt es p (thash P w k, Value.ref x) = es1 at *
  generalize L.take p ++ (x, k) :: L.drop p = L1 at *
  have len1 : L1.length = L.length + 1 := pm.length_eq
  have len2 := rows_len rows
  refine wpAny_bind (wpAny_storeSet_of ho hd ?_ (by rw [len2, len1, sizeLine_eq]; omega))
  have sb : Heap.SameBut a s.heap (s.heap.update a (Obj.putSet es1 t1)) := Heap.SameBut.update ..
  have at1 := store_at (es' := es1) (t' := t1) ho hd
  generalize s.heap.update a (Obj.putSet es1 t1) = h1 at *
  have led : w.params.followText "set-order" = true ∨ t1.led = true := g2.symm ▸ R.led
  have full : t1.tooFull = decide (¬ (L.length + 1) * 5 < t.mask * 3) := by
    unfold SetTable.tooFull
    rw [q4, g3]
    exact decide_eq_decide.mpr ⟨fun c => by omega, fun c => by omega⟩
  by_cases c : (L.length + 1) * 5 < t.mask * 3
  · have e : t1.tooFull = false := by rw [full]; exact decide_eq_false fun n => n c
    first
      | refine wp_if_neg (by simp [e]) ?_
      | (refine wpAny_bind ?_; refine wp_if_neg (by simp [e]) ?_; refine wpAny_pure ?_)
    exact wpAny_pure (q true h1 L1 es1 (ep + 1) t1 sb ⟨⟨_, at1, ⟨hex.1, hex.2.1, hex.2.2⟩, rfl⟩, rows, T, one, g1, led, by rw [len1, g3]; exact c, by omega⟩ (fun m => absurd m n) fun _ => pm)
  · have e : t1.tooFull = true := by rw [full]; exact decide_eq_true c
    obtain ⟨M, w1, w2, w3, w4⟩ := grown_mask R.tab.msk R.few z c
    have go : wpAny (model P w) A (setRelay a (SetTable.grown (es.size + 1))) (fun _ s' => wpAny (model P w) A (pure true) Q E s') E { s with heap := h1 } := by
      rw [len]
      have cn := T.cnt
      rw [List.length_map] at cn
      refine relay_b (s := { s with heap := h1 }) at1 ⟨hex.1, hex.2.1, hex.2.2⟩ rfl rows (cn.trans len2.symm) T.nod (by rw [len2, len1, g3]; omega) one g1 led (by omega) w1 w2 w3 (by rw [len1]; exact w4) ?_
      intro h2 L2 es2 ep2 t2 sb2 R2 pm2
      exact wpAny_pure (q true h2 L2 es2 ep2 t2 (sb.trans sb2) R2 (fun m => absurd m n) fun _ => pm2.trans pm)
    first
      | (refine wpAny_bind ?_; refine wp_if_pos (by simp [e]) ?_; exact go)
      | (refine wp_if_pos (by simp [e]) ?_; refine wpAny_bind ?_; exact go)

theorem SetP.typeIs (R : SetP P w s.heap a L es ep t) : s.TypeIs (.ref a) "set" := by
  obtain ⟨o, ho, hc, _⟩ := R.ob
  exact ⟨o, ho, hc.1⟩
theorem SetP.toks (R : SetP P w s.heap a L es ep t) (n : Nat) : SetP P w ({ s with toks := n } : Shared).heap a L es ep t := R
theorem in_b (R : SetP P w s.heap a L es ep t) (tup : ∀ p ∈ L, IsT P w s.heap p.2 p.1) {x : Addr} {k : List Int} (hx : IsT P w s.heap k x) (hu : A.units + 64 < cLine) {Q : Value → Shared → Prop}
    (q : ∀ n, Q (.bool (decide (k ∈ L.map (·.2)))) { s with toks := n }) : wpAny (model P w) A (compareOp .In (.ref x) (.ref a)) Q E s := by
  show wpAny _ _ (contains (.ref a) (.ref x) >>= fun b => pure (Value.bool b)) Q E s
  refine wpAny_bind ?_
  unfold contains
  try with_reducible refine wpAny_holding ?_
  refine wpAny_bind (wpAny_specialOf R.typeIs F.slot_set_contains.lookup ?_)
  show wpAny _ _ (if (some (Value.builtin "set.__contains__") == some Value.none) = true then _ else _) _ E s
  rw [beq_builtin_none, if_neg Bool.false_ne_true]
  refine wpAny_bind (wpAny_callSpecialUnlessNone?_slot (name := Str.ofString "__contains__") R.typeIs F.slot_set_contains
    (wpAny_call_entry F.slot_set_contains R.typeIs entry_set_contains ?_ (F.args_set_contains_2 _ _)))
  unfold Builtin.«frozenset.__contains__» Builtin.Frozenset.oneOther
  simp only [bind_assoc, List.isEmpty_nil]
  unfold Builtin.Frozenset.addrOf Builtin.Frozenset.withSetAsKey setContains
  refine wpAny_bind (wpAny_pure ?_)
  try dsimp only
  refine wpAny_bind (wpAny_pure ?_)
  try dsimp only
  refine wpAny_bind (wpAny_tryCatch (wpAny_holding (wpAny_bind (wpAny_pyHash_tuple (by simp only [Around.in1_units]; omega) hx ?_))))
  have R1 : SetP P w ({ s with toks := s.toks + (k.length + 1) } : Shared).heap a L es ep t := R
  have tup1 : ∀ p ∈ L, IsT P w ({ s with toks := s.toks + (k.length + 1) } : Shared).heap p.2 p.1 := tup
  have hx1 : IsT P w ({ s with toks := s.toks + (k.length + 1) } : Shared).heap k x := hx
  have q1 := q (s.toks + (k.length + 1))
  generalize ({ s with toks := s.toks + (k.length + 1) } : Shared) = s1 at *
  unfold setFind
  rw [show (100000 : Nat) = Nat.succ 99999 from rfl]
  unfold setFindIn
  obtain ⟨o, ho, _, hd⟩ := R1.ob
  refine wpAny_bind (wpAny_bind (wpAny_setState_of ho hd R1.fits ?_))
  dsimp only
  refine wp_if_neg (by simp [Value.scannable, byScan]) ?_
  try refine wpAny_bind (wpAny_pure ?_)
  refine wpAny_bind (search_b R1 tup1 hx1 (by simp only [Around.in1_units]; omega) false (fun m i => ?y) fun K n _ _ => ?n)
  all_goals dsimp only
  · refine wpAny_pure ?_
    refine wpAny_pure ?_
    rw [decide_eq_true m] at q1
    exact wpAny_pure ⟨_, rfl, wpAny_truthy_bool (wpAny_pure q1)⟩
  · refine wpAny_pure ?_
    refine wpAny_pure ?_
    rw [decide_eq_false n] at q1
    exact wpAny_pure ⟨_, rfl, wpAny_truthy_bool (wpAny_pure q1)⟩
theorem put_b (R : SetP P w s.heap a L es ep t) (tup : ∀ p ∈ L, IsT P w s.heap p.2 p.1) {x : Addr} {k : List Int} (hx : IsT P w s.heap k x) (hu : A.units + 64 < cLine) (few : L.length + 1 ≤ 1000) {Q : Value → Shared → Prop}
    (q : ∀ n h' L' es' ep' t', Heap.SameBut a s.heap h' → SetP P w h' a L' es' ep' t' → (k ∈ L.map (·.2) → L' = L) → (k ∉ L.map (·.2) → L'.Perm ((x, k) :: L)) → Q .none { s with heap := h', toks := n }) :
    wpAny (model P w) A (call (.builtin "set.add") [.ref a, .ref x]) Q E s := by
  refine wpAny_call_entry F.slot_set_add R.typeIs F.entry_set_add ?_ (F.args_set_add_2 _ _)
  unfold Builtin.«set.add» Builtin.Frozenset.oneOther
  simp only [bind_assoc, List.isEmpty_nil]
  unfold Builtin.Frozenset.addrOf setAdd
  refine wpAny_bind (wpAny_pure ?_)
  try dsimp only
  refine wpAny_bind (wpAny_pure ?_)
  try dsimp only
  refine wpAny_bind (wpAny_holding (wpAny_bind (wpAny_pyHash_tuple (by simp only [Around.in1_units]; omega) hx ?_)))
  refine add_b (s := { s with toks := s.toks + (k.length + 1) }) R tup hx (by simp only [Around.in1_units]; omega) few fun b h' L' es' ep' t' s1 s2 s3 s4 => ?_
  exact wpAny_pure ⟨_, rfl, q _ h' L' es' ep' t' s1 s2 s3 s4⟩
end
/-- the set at a, told alone -/
def SetI (P : Program) (w : World) (a : Addr) (L : List (Addr × List Int)) : HO := .ext fun h => ∃ es ep t, SetP P w h a L es ep t
theorem setI_ok {P : Program} {w : World} {H : Hp} {h : Heap} {a : Addr} {L : List (Addr × List Int)} {es : Array (Int × Value)} {ep : Nat} {t : SetTable} (R : SetP P w h a L es ep t) : ObjOk P w H h a (SetI P w a L) := by
  obtain ⟨o, ho, _⟩ := R.ob
  refine ⟨⟨es, ep, t, R⟩, ⟨o, ho⟩, fun h1 h2 p kp => ?_⟩
  obtain ⟨es, ep, t, R⟩ := p
  obtain ⟨o, ho, r⟩ := R.ob
  exact ⟨es, ep, t, ⟨o, kp o ho, r⟩, R.rows, R.tab, R.one, R.pln, R.led, R.wide, R.few⟩
section
variable {X : Cx}
/-- set() for tuples -/
def rNewI (P : Program) (w : World) : List V → Hp → VK → Prop := fun xs H Q => xs = [] ∧ ∀ p, H p = none → Q (.ref p) (upd H p (SetI P w p []))
theorem cr_newI : CallR X (.type "set") (rNewI X.prog X.w) := by
  intro pins s σ H xs us Q I r h
  obtain ⟨rfl, q⟩ := h
  cases r
  refine setR_new fun _ => ?_
  have R : SetP X.prog X.w (s.heap.push { cls := .type "set", dict := none, data := .set #[] 0 (.fresh 0 0 (!X.w.params.followText "set-order")) }) s.heap.objs.size [] #[] 0 (.fresh 0 0 (!X.w.params.followText "set-order")) := by
    refine ⟨⟨_, Heap.get?_push_size _ rfl, ⟨rfl, rfl, rfl⟩, rfl⟩, rfl, ⟨List.Pairwise.nil, rfl, rfl, .a, fun i h j e => (by simp at e)⟩, List.nodup_nil, rfl, ?_, by show 0 * 5 < 7 * 3; decide, Nat.zero_le _⟩
    show _ ∨ (!X.w.params.followText "set-order") = true
    cases X.w.params.followText "set-order" <;> simp
  exact ⟨.ref _, _, I.laid (t' := s.toks) (fun b u e => Heap.get?_push_of_some _ e) (Nat.le_refl _) (setI_ok R), rfl, q _ (I.hok.fresh (Nat.le_refl _))⟩
/-- the tuples stand -/
def Tups (K : PySem.W.Frag) (H : Hp) (L : List (Addr × List Int)) : Prop := ∀ p ∈ L, SqT K H p.1 (p.2.map V.int)
/-- t in seen -/
def rInI (K : PySem.W.Frag) (P : Program) (w : World) : V → V → Hp → VK → Prop := fun x y H Q => ∃ (b a : Addr) (k : List Int) (L : List (Addr × List Int)), x = .ref b ∧ y = .ref a ∧ SqT K H b (k.map V.int) ∧ H a = some (SetI P w a L) ∧ Tups K H L ∧ Q (.bl (decide (k ∈ L.map (·.2)))) H
theorem op_inI (hu : X.A.units + 64 < cLine) : OpR X (compareOp .In) (rInI X.K X.prog X.w) := by
  intro pins s σ H x y v u Q I rx ry h
  obtain ⟨b, a, k, L, rfl, rfl, hb, ha, T, q⟩ := h
  cases rx
  cases ry
  obtain ⟨⟨es, ep, t, R⟩, _⟩ := I.hok a _ ha
  exact in_b R (fun p hp => I.isT (T p hp)) (I.isT hb) hu fun n => ⟨.bl _, H, I.tok _, rfl, q⟩
/-- seen.add(t) -/
def rAddI (K : PySem.W.Frag) (P : Program) (w : World) : V → List V → Hp → VK → Prop := fun x xs H Q => ∃ (b a : Addr) (k : List Int) (L : List (Addr × List Int)), x = .ref a ∧ xs = [.ref b] ∧ SqT K H b (k.map V.int) ∧ H a = some (SetI P w a L) ∧ Tups K H L ∧ L.length + 1 ≤ 1000 ∧
  ∀ L', (k ∈ L.map (·.2) → L' = L) → (k ∉ L.map (·.2) → L'.Perm ((b, k) :: L)) → Q .non (upd H a (SetI P w a L'))
theorem mt_addI (hu : X.A.units + 64 < cLine) : MtR X "set.add" (rAddI X.K X.prog X.w) := by
  intro pins s σ H x xs v us Q I rx rxs h
  obtain ⟨b, a, k, L, rfl, rfl, hb, ha, T, few, q⟩ := h
  cases rx
  obtain ⟨u, rfl, ru⟩ := vals1 rxs
  cases ru
  obtain ⟨⟨es, ep, t, R⟩, _⟩ := I.hok a _ ha
  refine put_b R (fun p hp => I.isT (T p hp)) (I.isT hb) hu few fun n h' L' es' ep' t' sb R' e1 e2 => ?_
  obtain ⟨o, ho, _⟩ := R'.ob
  exact ⟨.non, _, I.write (e := a) (t' := n) (by rw [ha]; trivial) (.inl rfl) (fun c u hc hu => (sb.2 c hc).trans hu) ⟨o, ho⟩ (setI_ok R'), rfl, q L' e1 e2⟩
end
end Sx


/-! KX: list(d.values()), seen.add(t). -/
namespace Sx
open PySem PySem.Spec PyProof.Rows L2
section
variable {X : Cx}
/-- list(e.values()) -/
def tVals (te : TE) : TE := fun σ H Q => te σ H fun x H1 => ∃ (d : Addr) (kvs : List (Key × V)), x = .ref d ∧ H1 d = some (.dK kvs) ∧ ∀ p, H1 p = none → Q (.ref p) (upd H1 p (.lst (kvs.map (·.2))))
theorem kv_vals : ∀ {kvs : List (Key × V)} {vs : List (Key × Value)}, KV kvs vs → Vals (kvs.map (·.2)) (vs.map (·.2))
  | _, _, .nil => .nil
  | _, _, .cons h t => .cons h.2 (kv_vals t)
theorem pe_listVals {e : Expr} {te : TE} {p apos cpos pos : Pos} (hc : X.calm = true) (he : PE X e te) (hg : Gl X "list") (hm : X.mg "list" = none) (hbase : attributeBase e "values" X.env (eval e X.env) = eval e X.env := by rfl) (hline : (apos.endLine == cpos.line) = true := by rfl)
    (hs : starEach [.Call (.Attribute e "values" apos) [] [] cpos] X.env = (false, eval (.Call (.Attribute e "values" apos) [] [] cpos) X.env) :: starEach [] X.env := by rfl) :
    PE X (.Call (.Name "list" p) [.Call (.Attribute e "values" apos) [] [] cpos] [] pos) (tVals te) := by
  refine ⟨fun pins s σ H Q I hq => ?_⟩
  refine wpAny_Call_Name_kw (ld_blt I hg hm (by decide +kernel : bootBuiltins "list" = some (.type "list")) ?_)
  refine PyProof.Rows.callWith_type1 ?_ hs rfl
  rw [hs]
  refine (Calls.spliced_cons ?_ : wpAny _ _ (spliced ((false, eval (.Call (.Attribute e "values" apos) [] [] cpos) X.env) :: backTo pos (starEach [] X.env))) _ _ s)
  refine wpAny_Call_method (T := "dict") (id := "dict.values") hbase rfl hline F.plainAttrs_dict F.slot_dict_values F.type_dict_values (thn (he.run pins s σ H _ I hq) fun u s1 ⟨x, H1, I1, rx, d, kvs, ex, hd, q⟩ => ?_)
  subst ex
  obtain rfl : u = Value.ref d := rx
  obtain ⟨hz, ns, vs, kv, hdo⟩ := I1.hok d _ hd
  obtain ⟨ep, hat⟩ := hdo.dictAt
  have lk : kvs.length = vs.length := Paired.length kv
  refine ⟨hdo.typeIs, hdo.mapOf.noDict, (?_ : wpAny _ _ (callWith cpos (.builtin "dict.values") [.ref d] [] []) _ X.xe s1)⟩
  refine method_meetsIn F.slot_dict_values F.entry_dict_values rfl (PySem.evalArgs_none ⟨rfl, hdo.typeIs, F.args_dict_values_1 _, _, meets_dict_values (mixKind X.prog X.w) d ns, ⟨vs, hdo⟩, Calls.spliced_nil ?_⟩)
  have I2 : Inv X pins σ H1 { s1 with heap := s1.heap.push { cls := .type "dict_values", data := .fields #[.ref d] } } := I1.kept (t' := s1.toks) fun b ob z => Heap.get?_push_of_some _ z
  refine PySem.W.kdl_call (PySem.W.kdl_values (knd := mixKind X.prog X.w) (kvs := vs) (ep := ep)) (I1.ok.hd hc) ⟨⟨_, Heap.get?_push_size _ rfl, rfl, rfl⟩, hat.push _⟩ (by omega) fun h' tk acc c hk hS it => ?_
  have ea : acc.toList = vs.map (·.2) := PySem.W.kdl_vals_eq _ (by rw [Array.length_toList]; exact it.1) fun j v hj => it.2 j v (by rw [← Array.getElem?_toList]; exact hj)
  refine ⟨.ref _, _, I2.laid (t' := tk) (o := .lst (kvs.map (·.2))) hk (Nat.le_refl _) ⟨by rw [List.length_map]; omega, acc.toList, c, by rw [ea]; exact kv_vals kv, hS⟩, rfl, q _ ?_⟩
  exact I2.hok.fresh (Nat.le_refl _)
/-- seen.add(t), t a tuple of ints -/
def tAddI (K : PySem.W.Frag) (P : Program) (w : World) (to : TE) (t : TA) : TE := fun σ H Q => to σ H fun x H1 => (∃ a L, x = V.ref a ∧ H1 a = some (SetI P w a L)) ∧ t σ H1 fun xs H2 => rAddI K P w x xs H2 Q
theorem pe_addI {o e : Expr} {es : List Expr} {to : TE} {t : TA} {apos cpos : Pos} (hu : X.A.units + 64 < cLine) (ho : PE X o to) (ha : PA X (e :: es) t) (hb : attributeBase o "add" X.env (eval o X.env) = eval o X.env := by rfl)
    (hf : ((backTo cpos (starEach (e :: es) X.env)).all (fun x => !x.1) && (backToKw cpos (keywordEach [] X.env)).all (fun x => x.1.isSome) && decide ((e :: es).length + ([] : List Keyword).length + (if ([] : List Keyword).isEmpty then 0 else 1) < 30)) = true := by rfl)
    (hl : (apos.endLine == cpos.line) = true := by rfl) (hs : starEach (e :: es) X.env = (false, eval e X.env) :: starEach es X.env := by rfl) (hp : (backTo cpos (starEach es X.env)).any (·.1) = false := by rfl) :
    PE X (.Call (.Attribute o "add" apos) (e :: es) [] cpos) (tAddI X.K X.prog X.w to t) := by
  refine ⟨fun pins s σ H Q I h => ?_⟩
  refine wpAny_Call_method_late hb hf hl rfl (thn (ho.run pins s σ H _ I h) fun v s1 ⟨x, H1, I1, rx, ⟨a, L, ex, hk⟩, q⟩ => ?_)
  subst ex
  obtain ⟨⟨es0, ep, t0, R⟩, _⟩ := I1.hok a _ hk
  have nd : ∀ b, Value.ref a = .ref b → ∃ ob, s1.heap.get? b = some ob ∧ ob.dict = none := fun b e => by
    cases e
    obtain ⟨o, ho, hx, _⟩ := R.ob
    exact ⟨o, ho, hx.2.1⟩
  cases rx
  refine ⟨"set", "set.add", F.plainAttrs_set, F.slot_set_add, F.type_set_add, R.typeIs (s := s1), nd, ?_⟩
  have args := ha.run cpos pins s1 σ H1 _ I1 q
  rw [hs] at args ⊢
  refine Calls.callWith_builtin ?_ (Calls.evalArgs_plain (thn args fun us s2 ⟨vs, H2, I2, r2, q2⟩ => mt_addI hu pins s2 σ H2 (.ref a) vs (.ref a) us Q I2 rfl r2 q2))
  show (false || (backTo cpos (starEach es X.env)).any (·.1)) = false
  rw [hp]; rfl
end
end Sx


/-! K3: steps for dicts, unpacking, sets of tuples, all(..), isinstance, going through. -/
namespace Ap
open PySem L2 PySem.Spec PyProof.Rows
section
variable {X : Cx} {K : PySem.W.Frag} {σ : L2.St} {H : Hp} {Q : VK} {v x y : V} {td ty tv te : TE} {ta : TA} {g : TG} {gs : TGs} {D : Ends} {R : L2.St → Hp → Prop}
instance i_kNT {A B : Hp → Prop} : St (kIf A B (!true) H) (B H) := ⟨g_kF⟩
instance i_kNF {A B : Hp → Prop} : St (kIf A B (!false) H) (A H) := ⟨g_kT⟩
/-! ### targets -/
instance i_gNil : St (gNil [] σ H R) (R σ H) := ⟨fun h => ⟨rfl, h⟩⟩
def kGc (gs : TGs) (r : List V) (R : L2.St → Hp → Prop) : L2.St → Hp → Prop := fun σ' H' => gs r σ' H' R
instance i_gCons {r : List V} : St (gCons g gs (v :: r) σ H R) (g v σ H (kGc gs r R)) := ⟨fun h => ⟨v, r, rfl, h⟩⟩
instance i_kGc {r : List V} : St (kGc gs r R σ H) (gs r σ H R) := ⟨id⟩
theorem g_gLst {a : Addr} {xs : List V} {n : Nat} (e : H a = some (.lst xs)) (l : xs.length = n) (h : gs xs σ H R) : gLst K n gs (.ref a) σ H R := ⟨a, xs, rfl, SqL.of e, l, h⟩
theorem g_gTup {a : Addr} {xs : List V} {n : Nat} (e : H a = some (.tup xs)) (l : xs.length = n) (h : gs xs σ H R) : gTup K n gs (.ref a) σ H R := ⟨a, xs, rfl, SqT.of e, l, h⟩
/-! ### dicts -/
def kD2 (ty : TE) (σ : L2.St) (f : V → V → Hp → Prop) : VK := fun x H1 => ty σ H1 fun y H2 => f x y H2
def kDf (f : V → V → Hp → Prop) (x : V) : VK := fun y H2 => f x y H2
instance i_kD2 {f : V → V → Hp → Prop} : St (kD2 ty σ f x H) (ty σ H (kDf f x)) := ⟨id⟩
def fGet (Q : VK) : V → V → Hp → Prop := fun x y H2 => ∃ a v, x = .ref a ∧ DGet H2 a y (some v) ∧ Q v H2
instance i_dget : St (tDGet td ty σ H Q) (td σ H (kD2 ty σ (fGet Q))) := ⟨id⟩
theorem g_get {a : Addr} {kvs : List (Key × V)} {k : Key} (e : H a = some (.dK kvs)) (ey : y = kV k) (hv : valV kvs k = some v) (h : Q v H) : kDf (fGet Q) (.ref a) y H := ⟨a, v, rfl, by rw [ey, ← hv]; exact DGet.k e, h⟩
def fIn (b : Bool) (Q : VK) : V → V → Hp → Prop := fun y x H2 => ∃ a o, x = .ref a ∧ DGet H2 a y o ∧ Q (.bl (if b = true then o.isSome else !o.isSome)) H2
instance i_din : St (tDIn ty td σ H Q) (ty σ H (kD2 td σ (fIn true Q))) := ⟨id⟩
instance i_dnotin : St (tDNotIn ty td σ H Q) (ty σ H (kD2 td σ (fIn false Q))) := ⟨id⟩
theorem g_din {a : Addr} {kvs : List (Key × V)} {k : Key} {b : Bool} (e : H a = some (.dK kvs)) (ey : y = kV k) (h : Q (.bl (if b = true then (valV kvs k).isSome else !(valV kvs k).isSome)) H) : kDf (fIn b Q) y (.ref a) H := ⟨a, _, rfl, by rw [ey]; exact DGet.k e, h⟩
def kP1 (td ty : TE) (σ : L2.St) (R : L2.St → Hp → Prop) : VK := fun v H1 => td σ H1 fun x H2 => ty σ H2 fun y H3 => ∃ a H4, x = .ref a ∧ DPut H3 a y v H4 ∧ R σ H4
def fPut (v : V) (σ : L2.St) (R : L2.St → Hp → Prop) : V → V → Hp → Prop := fun x y H3 => ∃ a H4, x = .ref a ∧ DPut H3 a y v H4 ∧ R σ H4
instance i_dput : St (sDPut td ty tv D σ H) (tv σ H (kP1 td ty σ D.nx)) := ⟨id⟩
instance i_kP1 : St (kP1 td ty σ R v H) (td σ H (kD2 ty σ (fPut v σ R))) := ⟨id⟩
theorem g_put {a : Addr} {kvs : List (Key × V)} {k : Key} (e : H a = some (.dK kvs)) (ey : y = kV k) (l : kvs.length < sizeLine) (h : R σ (upd H a (.dK (putK kvs k v)))) : kDf (fPut v σ R) (.ref a) y H := ⟨a, _, rfl, by rw [ey]; exact DPut.k e l, h⟩
theorem g_dnew (h : ∀ p, H p = none → Q (.ref p) (upd H p (.dK []))) : tDNewK σ H Q := h
def kSd1 (ty tv : TE) (σ : L2.St) (Q : VK) : VK := fun x H1 => ∃ a, x = .ref a ∧ IsD H1 a ∧ ty σ H1 fun y H2 => tv σ H2 fun z H3 => ∃ (kvs : List (Key × V)) (k : Key), H3 a = some (.dK kvs) ∧ y = kV k ∧ kvs.length < sizeLine ∧ (∀ v, valV kvs k = some v → Q v H3) ∧ (valV kvs k = none → Q z (upd H3 a (.dK (putK kvs k z))))
def fSd (a : Addr) (Q : VK) : V → V → Hp → Prop := fun y z H3 => ∃ (kvs : List (Key × V)) (k : Key), H3 a = some (.dK kvs) ∧ y = kV k ∧ kvs.length < sizeLine ∧ (∀ v, valV kvs k = some v → Q v H3) ∧ (valV kvs k = none → Q z (upd H3 a (.dK (putK kvs k z))))
instance i_dsetd : St (tDSetd td ty tv σ H Q) (td σ H (kSd1 ty tv σ Q)) := ⟨id⟩
theorem g_sd {a : Addr} {kvs : List (Key × V)} (e : H a = some (.dK kvs)) (h : ty σ H (kD2 tv σ (fSd a Q))) : kSd1 ty tv σ Q (.ref a) H := ⟨a, rfl, .inl ⟨kvs, Rd.of e⟩, h⟩
theorem g_sdk {a : Addr} {kvs : List (Key × V)} {k : Key} {z : V} (e : H a = some (.dK kvs)) (ey : y = kV k) (l : kvs.length < sizeLine) (h1 : ∀ v, valV kvs k = some v → Q v H) (h2 : valV kvs k = none → Q z (upd H a (.dK (putK kvs k z)))) : kDf (fSd a Q) y z H := ⟨kvs, k, e, ey, l, h1, h2⟩
def kVl (Q : VK) : VK := fun x H1 => ∃ (d : Addr) (kvs : List (Key × V)), x = .ref d ∧ H1 d = some (.dK kvs) ∧ ∀ p, H1 p = none → Q (.ref p) (upd H1 p (.lst (kvs.map (·.2))))
instance i_vals : St (Sx.tVals te σ H Q) (te σ H (kVl Q)) := ⟨id⟩
theorem g_kVl {d : Addr} {kvs : List (Key × V)} (e : H d = some (.dK kvs)) (h : ∀ p, H p = none → Q (.ref p) (upd H p (.lst (kvs.map (·.2))))) : kVl Q (.ref d) H := ⟨d, kvs, rfl, e, h⟩
/-! ### sets of tuples -/
def kAd (K : PySem.W.Frag) (P : Program) (w : World) (ta : TA) (σ : L2.St) (Q : VK) : VK := fun x H1 => (∃ a L, x = V.ref a ∧ H1 a = some (Sx.SetI P w a L)) ∧ ta σ H1 fun xs H2 => Sx.rAddI K P w x xs H2 Q
def kAd2 (K : PySem.W.Frag) (P : Program) (w : World) (x : V) (Q : VK) : LK := fun xs H2 => Sx.rAddI K P w x xs H2 Q
instance i_addI {P : Program} {w : World} : St (Sx.tAddI K P w te ta σ H Q) (te σ H (kAd K P w ta σ Q)) := ⟨id⟩
theorem g_kAd {P : Program} {w : World} {a : Addr} {L : List (Addr × List Int)} (e : H a = some (Sx.SetI P w a L)) (h : ta σ H (kAd2 K P w (.ref a) Q)) : kAd K P w ta σ Q (.ref a) H := ⟨⟨a, L, rfl, e⟩, h⟩
instance i_kAd2 {P : Program} {w : World} {xs : List V} : St (kAd2 K P w x Q xs H) (Sx.rAddI K P w x xs H Q) := ⟨id⟩
/-! ### all(..) -/
def kAl (K : PySem.W.Frag) (P : Addr) (Cn : L2.St → Hp → V → (Value → Prop) → Prop) (σ : L2.St) (Q : VK) : VK := fun v H1 => ∃ (yl : Addr) (ws : List V) (pb : V → Bool), v = .ref yl ∧ SqL K H1 yl ws ∧ (∀ w ∈ ws, Cn σ H1 w (· = .bool (pb w))) ∧ GxR.TabG H1 P ∧ ∀ H2, GxR.Tabbed P H1 H2 → Q (.bl (ws.all pb)) H2
instance i_all {P : Addr} {Cn : L2.St → Hp → V → (Value → Prop) → Prop} : St (tAllL K P Cn te σ H Q) (te σ H (kAl K P Cn σ Q)) := ⟨id⟩
/-! ### going through -/
instance i_lock {t : TS} : St (tLock t D σ H) (∃ d u, H d = some u ∧ Mut (some u) ∧ ∀ od, t ⟨fun σ' H' => H' d = some (.frz od u) ∧ D.nx σ' (upd H' d u), fun v H' => H' d = some (.frz od u) ∧ D.rt v (upd H' d u), fun σ' H' => H' d = some (.frz od u) ∧ D.bk σ' (upd H' d u), fun σ' H' => H' d = some (.frz od u) ∧ D.ct σ' (upd H' d u)⟩ σ (upd H d (.frz od u))) := ⟨id⟩
def kIK (R : It → Hp → Prop) : VK := fun x H1 => ∃ d o, x = .ref d ∧ ((∃ kvs, H1 d = some (.frz o (.dK kvs)) ∧ R (Itk d o kvs) H1) ∨ ∃ kvs, H1 d = some (.frz o (.dT kvs)) ∧ R (Itkt d o kvs) H1)
instance i_iKeys {R : It → Hp → Prop} : St (iKeys td σ H R) (td σ H (kIK R)) := ⟨id⟩
theorem g_kIK {R : It → Hp → Prop} {d : Addr} {o : Obj} {kvs : List (Key × V)} (e : H d = some (.frz o (.dK kvs))) (h : R (Itk d o kvs) H) : kIK R (.ref d) H := ⟨d, o, rfl, .inl ⟨kvs, e, h⟩⟩
def kIEn (K : PySem.W.Frag) (R : It → Hp → Prop) : LK := fun vs H1 => ∃ a xs, vs = [.ref a] ∧ SqL K H1 a xs ∧ R (Ite K a) H1
instance i_iEnum {R : It → Hp → Prop} : St (iEnum K ta σ H R) (ta σ H (kIEn K R)) := ⟨id⟩
theorem g_kIEn {R : It → Hp → Prop} {a : Addr} {xs : List V} (e : H a = some (.lst xs)) (h : R (Ite K a) H) : kIEn K R [.ref a] H := ⟨a, xs, rfl, SqL.of e, h⟩
/-- by any walk -/
theorem g_it {J : It} {n : Nat} {G : Hp → Prop} {Y : Nat → Hp → V → Hp → Prop} (w : Walk J n G Y) {tb : TS} (Pv : Nat → L2.St → Hp → Prop) (h0 : Pv 0 σ H) (hG : ∀ i σ H, i ≤ n → Pv i σ H → G H)
    (hs : ∀ i x σ H H', i < n → Pv i σ H → Y i H x H' → g x σ H' (tb ⟨Pv (i + 1), D.rt, D.nx, Pv (i + 1)⟩)) (hd : ∀ σ H, Pv n σ H → D.nx σ H) : kFor g tb D σ J H := for_it w Pv h0 hG hs hd
/-! ### a < b < c -/
def kCh1 (r r' : R2) (tb tc : TE) (σ : L2.St) (Q : VK) : VK := fun x H1 => tb σ H1 fun y H2 => r x y H2 fun z H3 => ∃ k, z = .bl k ∧ (if k = true then tc σ H3 fun w' H4 => r' y w' H4 Q else Q (.bl false) H3)
def kCh2 (r r' : R2) (tc : TE) (x : V) (σ : L2.St) (Q : VK) : VK := fun y H2 => r x y H2 fun z H3 => ∃ k, z = .bl k ∧ (if k = true then tc σ H3 fun w' H4 => r' y w' H4 Q else Q (.bl false) H3)
def kCh3 (r' : R2) (tc : TE) (y : V) (σ : L2.St) (Q : VK) : VK := fun z H3 => ∃ k, z = .bl k ∧ (if k = true then tc σ H3 fun w' H4 => r' y w' H4 Q else Q (.bl false) H3)
instance i_chain {r r' : R2} {ta tb tc : TE} : St (tChain r r' ta tb tc σ H Q) (ta σ H (kCh1 r r' tb tc σ Q)) := ⟨id⟩
instance i_kCh1 {r r' : R2} {tb tc : TE} : St (kCh1 r r' tb tc σ Q x H) (tb σ H (kCh2 r r' tc x σ Q)) := ⟨id⟩
instance i_kCh2 {r r' : R2} {tc : TE} : St (kCh2 r r' tc x σ Q y H) (r x y H (kCh3 r' tc y σ Q)) := ⟨id⟩
instance i_kCh3 {r' : R2} {tc : TE} {k : Bool} : St (kCh3 r' tc y σ Q (.bl k) H) (kIf (fun H3 => tc σ H3 (kO2 r' y Q)) (fun H3 => Q (.bl false) H3) k H) := ⟨fun h => ⟨k, rfl, h⟩⟩
/-! ### isinstance -/
theorem g_isi {T T' : String} {b : Bool} (t : TyX K H x (.type T')) (k : kitB T' T = some b) (h : Q (.bl b) H) : rIsi K [x, .ty T] H Q := ⟨x, .ty T, _, _, b, rfl, .ty T, t, kit_ty k, h⟩
end
theorem upd_swap {H : Hp} {a b : Addr} {x y : HO} (h : b ≠ a) : upd (upd H a x) b y = upd (upd H b y) a x := funext fun c => by
  by_cases h1 : c = b
  · rw [h1, upd_same, upd_ne h, upd_same]
  · rw [upd_ne h1]
    by_cases h2 : c = a
    · rw [h2, upd_same, upd_same]
    · rw [upd_ne h2, upd_ne h2, upd_ne h1]
theorem upd_upd {H : Hp} {a : Addr} {x y : HO} : upd (upd H a x) a y = upd H a y := funext fun c => by
  by_cases h : c = a
  · rw [h, upd_same, upd_same]
  · rw [upd_ne h, upd_ne h, upd_ne h]
theorem upd_id {H : Hp} {a : Addr} {x : HO} (e : H a = some x) : upd H a x = H := funext fun c => by
  by_cases h : c = a
  · rw [h, upd_same, e]
  · rw [upd_ne h]
/-- a table alone has grown -/
theorem Kp.tabbed {T : Addr} {H H' : Hp} (g : GxR.TabG H T) (h : GxR.Tabbed T H H') : Kp [] H H' := by
  obtain ⟨ps, e, t⟩ := g
  obtain ⟨⟨ps', e', t'⟩, k⟩ := h
  refine ⟨fun b o _ hb n => ?_, fun b qs hb tq => ?_, fun b o hb => ?_⟩
  · rw [k b fun z => n ps (by rw [z, e] at hb; exact (Option.some.inj hb).symm)]; exact hb
  · by_cases z : b = T
    · rw [z]; exact ⟨ps', e', t'⟩
    · exact ⟨qs, (k b z).trans hb, tq⟩
  · by_cases z : b = T
    · rw [z]; exact ⟨_, e'⟩
    · exact ⟨o, (k b z).trans hb⟩
theorem _root_.Sx.Tups.kp {K : PySem.W.Frag} {H H' : Hp} {L : List (Addr × List Int)} (h : Sx.Tups K H L) (k : Kp [] H H') : Sx.Tups K H' L := fun p hp => by
  rcases h p hp with (h | ⟨o, h⟩) | h
  · exact .inl (.inl (k.tup nin0 h))
  · exact .inl (.inr ⟨o, k.frz nin0 h⟩)
  · exact .inr h
/-- a generator expression's scope within a def -/
theorem gs_of {qual : Str} {sc scope : Scope} {L f : Addr} {cdv : Value} {x : Str} (k : scope.kind = .function) (co : scope.isCoroutine = false) (ce : ∀ y ∈ scope.names, y.2 ≠ .cell) (dot : scope.names.lookup (".0" : Str) = some NameKind.local) (loc : scope.names.lookup x = some .local)
    (fr : ∀ y ∈ scope.names, y.2 = .free → sc.names.lookup y.1 = some .cell) : GxR.GenS (envOfC qual sc L f cdv) scope x :=
  ⟨k, co, ce, dot, loc, fun y hy hf => Option.isSome_iff_exists.mp (PySem.W.cellsFrom_some _ _ _ (.inl (fr y hy hf)))⟩
end Ap
namespace Ap
open PySem L2 PySem.Spec PyProof.Rows
/-! ### list comprehensions -/
section
variable {K : PySem.W.Frag} {σ : L2.St} {H : Hp} {Q : VK} {te : TE} {tt : TT} {g : TG} {vs : List Nat} {D : Addr} {N : Hp → Prop} {y : V}
def kLc (g : TG) (tt : TT) (te : TE) (vs : List Nat) (σ : L2.St) (Q : VK) : It → Hp → Prop := fun J H1 => ∀ D, H1 D = none → ∃ W : Nat → Nat → Hp → Prop, (∃ m, W 0 m (upd H1 D (.lst []))) ∧ ∀ i m H, W i m H →
  (J.stop i H ∧ Q (.ref D) H) ∨ (J.go i H ∧ ∃ Nx : Hp → Prop, (∀ H', Nx H' → ∃ m', m' < m ∧ W (i + 1) m' H') ∧ ∀ x H', J.yld i H x H' → g x (wipe σ vs) H' fun σ2 H2 => wipe σ2 vs = wipe σ vs ∧ tt σ2 H2 fun b H3 =>
    if b = true then te σ2 H3 fun y H4 => ∃ acc, H4 D = some (.lst acc) ∧ acc.length < sizeLine ∧ Nx (upd H4 D (.lst (acc ++ [y]))) else Nx H3)
instance i_lc {wi : TI} : St (tLc wi g tt te vs σ H Q) (wi σ H (kLc g tt te vs σ Q)) := ⟨id⟩
def kLe (D : Addr) (N : Hp → Prop) : VK := fun y H4 => ∃ acc, H4 D = some (.lst acc) ∧ acc.length < sizeLine ∧ N (upd H4 D (.lst (acc ++ [y])))
def kLg (tt : TT) (te : TE) (D : Addr) (vs : List Nat) (w0 : L2.St) (N : Hp → Prop) : L2.St → Hp → Prop := fun σ2 H2 => wipe σ2 vs = w0 ∧ tt σ2 H2 (kIf (fun H3 => te σ2 H3 (kLe D N)) N)
theorem g_kLg {w0 : L2.St} (e : wipe σ vs = w0) (h : tt σ H (kIf (fun H3 => te σ H3 (kLe D N)) N)) : kLg tt te D vs w0 N σ H := ⟨e, h⟩
theorem g_kLe {acc : List V} (e : H D = some (.lst acc)) (l : acc.length < sizeLine) (h : N (upd H D (.lst (acc ++ [y])))) : kLe D N y H := ⟨acc, e, l, h⟩
instance i_yes {R : Bool → Hp → Prop} : St (tYes σ H R) (R true H) := ⟨id⟩
/-- by any walk; w0: the slots with the comprehension's own ones empty -/
theorem g_lc {J : It} {n : Nat} {G : Hp → Prop} {Y : Nat → Hp → V → Hp → Prop} (w : Walk J n G Y) {w0 : L2.St} (ew : wipe σ vs = w0)
    (h : ∀ D, H D = none → ∃ Pv : Nat → Hp → Prop, Pv 0 (upd H D (.lst [])) ∧ (∀ i H, i ≤ n → Pv i H → G H) ∧ (∀ i x H1 H', i < n → Pv i H1 → Y i H1 x H' → g x w0 H' (kLg tt te D vs w0 (Pv (i + 1)))) ∧ ∀ H, Pv n H → Q (.ref D) H) : kLc g tt te vs σ Q J H := by
  subst ew
  intro D hD
  obtain ⟨Pv, h0, hG, hs, hd⟩ := h D hD
  exact lc_it w Pv h0 hG hs hd
end
/-- a comprehension within a comprehension -/
def relS (sc0 sc : Scope) : Scope := relabel sc0 { scope := sc, locals := 0, globals := 0, cells := [] }
theorem blkOk_in {N : List Str} {sc0 sc scope : Scope} {own : List (Str × Nat)} {env : Env} (e : env.scope = sc) (h : blkC N (relS sc0 sc) scope own = true) : BlkOk N (relabel sc0 env) scope own := by
  subst e
  exact blkOk_by h
mutual
/-- a new thing is none of the data's -/
theorem Da.fresh {P : Addr → Prop} {H : Hp} {p : Addr} {o : HO} (hp : H p = none) : ∀ {d : PyData} {v : V}, Da P H v d → Da (fun b => P b ∧ b ≠ p) (upd H p o) v d
  | _, _, .non => .non
  | _, _, .bl b => .bl b
  | _, _, .int i => .int i
  | _, _, .str x => .str x
  | _, _, .lst h e a => .lst ⟨h, ne_of_none e hp⟩ (by rw [upd_ne (ne_of_none e hp)]; exact e) (DaAll.fresh hp a)
  | _, _, .tup h e a => .tup ⟨h, ne_of_none e hp⟩ (by rw [upd_ne (ne_of_none e hp)]; exact e) (DaAll.fresh hp a)
theorem DaAll.fresh {P : Addr → Prop} {H : Hp} {p : Addr} {o : HO} (hp : H p = none) : ∀ {ds : List PyData} {vs : List V}, DaAll P H vs ds → DaAll (fun b => P b ∧ b ≠ p) (upd H p o) vs ds
  | _, _, .nil => .nil
  | _, _, .cons h t => .cons (Da.fresh hp h) (DaAll.fresh hp t)
end
mutual
/-- a thing that is none of the data's is changed -/
theorem Da.other {P : Addr → Prop} {H : Hp} {p : Addr} {o : HO} (hp : ∀ b, P b → b ≠ p) : ∀ {d : PyData} {v : V}, Da P H v d → Da P (upd H p o) v d
  | _, _, .non => .non
  | _, _, .bl b => .bl b
  | _, _, .int i => .int i
  | _, _, .str x => .str x
  | _, _, .lst h e a => .lst h (by rw [upd_ne (hp _ h)]; exact e) (DaAll.other hp a)
  | _, _, .tup h e a => .tup h (by rw [upd_ne (hp _ h)]; exact e) (DaAll.other hp a)
theorem DaAll.other {P : Addr → Prop} {H : Hp} {p : Addr} {o : HO} (hp : ∀ b, P b → b ≠ p) : ∀ {ds : List PyData} {vs : List V}, DaAll P H vs ds → DaAll P (upd H p o) vs ds
  | _, _, .nil => .nil
  | _, _, .cons h t => .cons (Da.other hp h) (DaAll.other hp t)
end
theorem Da.imp {P P' : Addr → Prop} {H : Hp} {v : V} {d : PyData} (h : Da P H v d) (w : ∀ b, P b → P' b) : Da P' H v d := h.keep (Kp.refl [] _) (fun _ _ => nin0) w
theorem DaAll.imp {P P' : Addr → Prop} {H : Hp} {vs : List V} {ds : List PyData} (h : DaAll P H vs ds) (w : ∀ b, P b → P' b) : DaAll P' H vs ds := h.keep (Kp.refl [] _) (fun _ _ => nin0) w
mutual
/-- what the data stand at is there -/
theorem Da.here {P : Addr → Prop} {H : Hp} : ∀ {d : PyData} {v : V}, Da P H v d → Da (fun b => P b ∧ H b ≠ none) H v d
  | _, _, .non => .non
  | _, _, .bl b => .bl b
  | _, _, .int i => .int i
  | _, _, .str x => .str x
  | _, _, .lst h e a => .lst ⟨h, by rw [e]; exact Option.some_ne_none _⟩ e (DaAll.here a)
  | _, _, .tup h e a => .tup ⟨h, by rw [e]; exact Option.some_ne_none _⟩ e (DaAll.here a)
theorem DaAll.here {P : Addr → Prop} {H : Hp} : ∀ {ds : List PyData} {vs : List V}, DaAll P H vs ds → DaAll (fun b => P b ∧ H b ≠ none) H vs ds
  | _, _, .nil => .nil
  | _, _, .cons h t => .cons (Da.here h) (DaAll.here t)
end
end Ap


/-! N0: nets in plain words. -/
namespace Ap
open PySem L2
abbrev Tie := Int × Int
/-- two ties do not tie the same two -/
def Apart (s t : Tie) : Prop := ¬ (s.1 = t.1 ∧ s.2 = t.2) ∧ ¬ (s.1 = t.2 ∧ s.2 = t.1)
/-- ties of different seats of S, no two seats twice -/
structure NetS (S : List Int) (ts : List Tie) : Prop where
  mem : ∀ t ∈ ts, t.1 ∈ S ∧ t.2 ∈ S ∧ t.1 ≠ t.2
  ap : ts.Pairwise Apart
theorem NetS.nil (S : List Int) : NetS S [] := ⟨fun _ h => (nomatch h), .nil⟩
theorem NetS.mono {S S' : List Int} {ts : List Tie} (h : NetS S ts) (k : ∀ x ∈ S, x ∈ S') : NetS S' ts := ⟨fun t m => ⟨k _ (h.mem t m).1, k _ (h.mem t m).2.1, (h.mem t m).2.2⟩, h.ap⟩
theorem NetS.snoc {S : List Int} {ts : List Tie} (h : NetS S ts) {t : Tie} (h1 : t.1 ∈ S) (h2 : t.2 ∈ S) (ne : t.1 ≠ t.2) (ap : ∀ s ∈ ts, Apart s t) : NetS S (ts ++ [t]) := by
  refine ⟨fun s m => ?_, List.pairwise_append.mpr ⟨h.ap, List.pairwise_singleton _ _, fun s hs u hu => ?_⟩⟩
  · rcases List.mem_append.mp m with m | m
    · exact h.mem s m
    · obtain rfl := List.mem_singleton.mp m
      exact ⟨h1, h2, ne⟩
  · obtain rfl := List.mem_singleton.mp hu
    exact ap s hs
/-- a new seat x is tied -/
theorem NetS.new {S : List Int} {ts : List Tie} (h : NetS S ts) {x y : Int} (hx : x ∉ S) (hy : y ∈ S) : NetS (S ++ [x]) (ts ++ [(x, y)]) ∧ NetS (S ++ [x]) (ts ++ [(y, x)]) := by
  have m : ∀ z ∈ S, z ∈ S ++ [x] := fun z hz => List.mem_append_left _ hz
  have ne : x ≠ y := fun z => hx (z ▸ hy)
  have xm : x ∈ S ++ [x] := List.mem_append_right _ (List.mem_singleton.mpr rfl)
  have o : ∀ s ∈ ts, s.1 ≠ x ∧ s.2 ≠ x := fun s hs => ⟨fun z => hx (z ▸ (h.mem s hs).1), fun z => hx (z ▸ (h.mem s hs).2.1)⟩
  refine ⟨(h.mono m).snoc xm (m y hy) ne fun s hs => ⟨fun z => (o s hs).1 z.1, fun z => (o s hs).2 z.2⟩, (h.mono m).snoc (m y hy) xm (Ne.symm ne) fun s hs => ⟨fun z => (o s hs).2 z.2, fun z => (o s hs).1 z.1⟩⟩
theorem take_succ' {ls : List Int} {i : Nat} {x : Int} (h : ls[i]? = some x) : ls.take (i + 1) = ls.take i ++ [x] := by
  rw [List.take_add_one, h]; rfl
theorem not_mem_take {ls : List Int} (nd : ls.Nodup) {i : Nat} {x : Int} (h : ls[i]? = some x) : x ∉ ls.take i := by
  intro z
  obtain ⟨j, hj, e⟩ := List.getElem_of_mem z
  rw [List.length_take] at hj
  rw [List.getElem_take] at e
  obtain ⟨hi, e2⟩ := List.getElem?_eq_some_iff.mp h
  have := (List.getElem_inj nd).mp (e.trans e2.symm)
  omega
theorem mem_take {ls : List Int} {i j : Nat} {x : Int} (h : ls[j]? = some x) (l : j < i) : x ∈ ls.take i := by
  obtain ⟨hj, e⟩ := List.getElem?_eq_some_iff.mp h
  rw [← e]
  exact List.mem_take_iff_getElem.mpr ⟨j, by omega, rfl⟩
def tieD (t : Tie) : PyData := .list [.int t.1, .int t.2]
def netD (ts : List Tie) : PyData := .list (ts.map tieD)
theorem ints_perm {ys : List V} {ns : List Int} (h : ys.Perm (ns.map V.int)) : ∃ ls : List Int, ys = ls.map V.int ∧ ls.Perm ns := by
  let un : V → Int := fun v => match v with
    | .int i => i
    | _ => 0
  have e : ∀ l : List Int, (l.map V.int).map un = l := fun l => by
    rw [List.map_map]
    exact (List.map_congr_left (fun _ _ => rfl)).trans (List.map_id l)
  refine ⟨ys.map un, ?_, by rw [← e ns]; exact h.map un⟩
  have all : ∀ y ∈ ys, V.int (un y) = y := fun y hy => by
    obtain ⟨i, _, rfl⟩ := List.mem_map.mp (h.mem_iff.mp hy)
    rfl
  rw [List.map_map]
  exact ((List.map_congr_left (f := V.int ∘ un) (g := id) all).trans (List.map_id ys)).symm
/-- 1, 2 .. n -/
def up (n : Nat) : List Int := (List.range n).map fun i => (1 : Int) + (i : Nat)
theorem up_mem {n : Nat} {x : Int} : x ∈ up n ↔ 1 ≤ x ∧ x ≤ n := by
  unfold up
  rw [List.mem_map]
  constructor
  · rintro ⟨i, hi, rfl⟩
    have := List.mem_range.mp hi
    omega
  · intro ⟨h1, h2⟩
    exact ⟨(x - 1).toNat, List.mem_range.mpr (by omega), by omega⟩
theorem up_length (n : Nat) : (up n).length = n := by simp [up]
theorem up_nodup (n : Nat) : (up n).Nodup := by
  unfold up
  exact List.Pairwise.map _ (fun a b h => by omega) List.nodup_range
theorem rgV_up (n : Nat) : rgV 1 ((n : Int) + 1) = (up n).map V.int := by
  unfold rgV up
  rw [List.map_map, show ((n : Int) + 1 - 1).toNat = n by omega]
  rfl
end Ap


/-! N1: what hangs together, by gluing ties one after the other. -/
namespace Ap
def glue (m : Int → Int) (t : Tie) : Int → Int := fun x => if m x = max (m t.1) (m t.2) then min (m t.1) (m t.2) else m x
/-- the least seat that hangs together with x -/
def kin (ts : List Tie) : Int → Int := ts.foldl glue id
theorem kin_nil (x : Int) : kin [] x = x := rfl
theorem kin_snoc (ts : List Tie) (t : Tie) : kin (ts ++ [t]) = glue (kin ts) t := by
  unfold kin
  rw [List.foldl_append]; rfl
theorem snoc_ind {α : Type} {P : List α → Prop} (h0 : P []) (hs : ∀ l a, P l → P (l ++ [a])) : ∀ l, P l := fun l => by
  have key : ∀ n (l : List α), l.length = n → P l := by
    intro n
    induction n with
    | zero => intro l e; rw [List.eq_nil_of_length_eq_zero e]; exact h0
    | succ n ih =>
      intro l e
      have ne : l ≠ [] := fun z => by rw [z] at e; cases e
      rw [← List.dropLast_concat_getLast ne]
      exact hs _ _ (ih _ (by rw [List.length_dropLast]; omega))
  exact key _ l rfl
theorem kin_le (ts : List Tie) : ∀ x, kin ts x ≤ x := by
  induction ts using snoc_ind with
  | h0 => intro x; exact Int.le_refl x
  | hs ts t ih =>
    intro x
    rw [kin_snoc]
    unfold glue
    have := ih x
    split <;> omega
theorem kin_mk (ts : List Tie) : ∀ x, kin ts (kin ts x) = kin ts x := by
  induction ts using snoc_ind with
  | h0 => intro x; rfl
  | hs ts t ih =>
    intro x
    rw [kin_snoc]
    have a := ih t.1
    have b := ih t.2
    have c := ih x
    have low : kin ts (min (kin ts t.1) (kin ts t.2)) = min (kin ts t.1) (kin ts t.2) := by
      rcases Int.le_total (kin ts t.1) (kin ts t.2) with h | h
      · rw [Int.min_eq_left h, a]
      · rw [Int.min_eq_right h, b]
    show glue (kin ts) t (glue (kin ts) t x) = glue (kin ts) t x
    by_cases h : kin ts x = max (kin ts t.1) (kin ts t.2)
    · have e : glue (kin ts) t x = min (kin ts t.1) (kin ts t.2) := if_pos h
      rw [e]
      unfold glue
      rw [low]
      split <;> omega
    · have e : glue (kin ts) t x = kin ts x := if_neg h
      rw [e]
      unfold glue
      rw [c, if_neg h]
theorem kin_tie (ts : List Tie) : ∀ t ∈ ts, kin ts t.1 = kin ts t.2 := by
  induction ts using snoc_ind with
  | h0 => intro t h; cases h
  | hs ts u ih =>
    intro t h
    rw [kin_snoc]
    unfold glue
    rcases List.mem_append.mp h with h | h
    · rw [ih t h]
    · obtain rfl := List.mem_singleton.mp h
      split <;> split <;> omega
/-- what is closed under ties is so for all that hang together -/
theorem kin_closed (ts : List Tie) : ∀ (C : Int → Prop), (∀ t ∈ ts, C t.1 ↔ C t.2) → ∀ x y, kin ts x = kin ts y → (C x ↔ C y) := by
  induction ts using snoc_ind with
  | h0 => intro C _ x y e; rw [show x = y from e]
  | hs ts t ih =>
    intro C hC x y e
    have h1 := ih C fun s hs => hC s (List.mem_append_left _ hs)
    have h2 := hC t (List.mem_append_right _ (List.mem_singleton.mpr rfl))
    rw [kin_snoc] at e
    unfold glue at e
    have ends : ∀ z, kin ts z = max (kin ts t.1) (kin ts t.2) ∨ kin ts z = min (kin ts t.1) (kin ts t.2) → (C z ↔ C t.1) := fun z hz => by
      have : kin ts z = kin ts t.1 ∨ kin ts z = kin ts t.2 := by omega
      rcases this with q | q
      · exact h1 z t.1 q
      · exact (h1 z t.2 q).trans h2.symm
    by_cases hx : kin ts x = max (kin ts t.1) (kin ts t.2)
    · rw [if_pos hx] at e
      by_cases hy : kin ts y = max (kin ts t.1) (kin ts t.2)
      · exact h1 x y (hx.trans hy.symm)
      · rw [if_neg hy] at e
        exact (ends x (.inl hx)).trans (ends y (.inr e.symm)).symm
    · rw [if_neg hx] at e
      by_cases hy : kin ts y = max (kin ts t.1) (kin ts t.2)
      · rw [if_pos hy] at e
        exact (ends x (.inr e)).trans (ends y (.inl hy)).symm
      · rw [if_neg hy] at e
        exact h1 x y e
theorem kin_in {S : List Int} {ts : List Tie} (h : ∀ t ∈ ts, t.1 ∈ S ∧ t.2 ∈ S) {x : Int} (hx : x ∈ S) : kin ts x ∈ S := by
  refine (kin_closed ts (· ∈ S) (fun t ht => ?_) x (kin ts x) (kin_mk ts x).symm).mp hx
  exact ⟨fun _ => (h t ht).2, fun _ => (h t ht).1⟩
/-- a search from s: ks: found, la: to be looked at, ex: being looked at; ks0: found ahead of it -/
structure Dfs (n : Nat) (ts : List Tie) (ks0 : List Int) (s : Int) (ex : Int → Prop) (ks la : List Int) : Prop where
  nd : ks.Nodup
  sub : ∀ x ∈ ks, x ∈ up n
  old : ∀ x ∈ ks0, x ∈ ks
  new : ∀ x ∈ ks, x ∈ ks0 ∨ kin ts x = s
  here : s ∈ ks
  st : ∀ x ∈ la, x ∈ ks ∧ kin ts x = s
  done : ∀ x ∈ ks, kin ts x = s → x ∉ la → ¬ ex x → ∀ y, (x, y) ∈ ts ∨ (y, x) ∈ ts → y ∈ ks
/-- what has been found ahead: all that hangs together with 1 .. i -/
structure Found (n : Nat) (ts : List Tie) (i : Nat) (ks : List Int) : Prop where
  nd : ks.Nodup
  sub : ∀ x ∈ ks, x ∈ up n
  has : ∀ x ∈ up i, x ∈ ks
  cl : ∀ x ∈ ks, ∀ y ∈ up n, kin ts y = kin ts x → y ∈ ks
theorem Found.nil (n : Nat) (ts : List Tie) : Found n ts 0 [] := ⟨List.nodup_nil, fun _ h => (nomatch h), fun x h => (by have := up_mem.mp h; omega), fun _ h => (nomatch h)⟩
theorem Found.root {n i : Nat} {ts : List Tie} {ks : List Int} (F : Found n ts i ks) (hN : NetS (up n) ts) (hi : i < n) (h : ((i : Int) + 1) ∉ ks) : kin ts ((i : Int) + 1) = (i : Int) + 1 := by
  have m := kin_in (fun t ht => ⟨(hN.mem t ht).1, (hN.mem t ht).2.1⟩) (up_mem.mpr ⟨by omega, by omega⟩ : ((i : Int) + 1) ∈ up n)
  have le := kin_le ts ((i : Int) + 1)
  by_cases c : kin ts ((i : Int) + 1) = (i : Int) + 1
  · exact c
  · have b := up_mem.mp m
    exact absurd (F.cl _ (F.has _ (up_mem.mpr ⟨b.1, by omega⟩)) _ (up_mem.mpr ⟨by omega, by omega⟩) (kin_mk ts _).symm) h
theorem Found.more {n i : Nat} {ts : List Tie} {ks : List Int} (F : Found n ts i ks) (h : ((i : Int) + 1) ∈ ks) : Found n ts (i + 1) ks := by
  refine ⟨F.nd, F.sub, fun x hx => ?_, F.cl⟩
  have b := up_mem.mp hx
  by_cases c : x = (i : Int) + 1
  · rw [c]; exact h
  · exact F.has x (up_mem.mpr ⟨b.1, by omega⟩)
theorem Dfs.start {n i : Nat} {ts : List Tie} {ks : List Int} (F : Found n ts i ks) (hN : NetS (up n) ts) (hi : i < n) (h : ((i : Int) + 1) ∉ ks) : Dfs n ts ks ((i : Int) + 1) (fun _ => False) (ks ++ [(i : Int) + 1]) [(i : Int) + 1] := by
  have r := F.root hN hi h
  have s : ∀ x, x ∈ ks ++ [(i : Int) + 1] → x ∈ ks ∨ x = (i : Int) + 1 := fun x hx => (List.mem_append.mp hx).imp id List.mem_singleton.mp
  refine ⟨List.nodup_append.mpr ⟨F.nd, List.nodup_cons.mpr ⟨(nomatch ·), List.nodup_nil⟩, fun a ha b hb z => h ?_⟩, fun x hx => ?_, fun x hx => List.mem_append_left _ hx, fun x hx => ?_, List.mem_append_right _ (List.mem_singleton.mpr rfl), fun x hx => ?_, fun x hx e nl _ => ?_⟩
  · rw [← List.mem_singleton.mp hb, ← z]; exact ha
  · rcases s x hx with q | rfl
    · exact F.sub x q
    · exact up_mem.mpr ⟨by omega, by omega⟩
  · rcases s x hx with q | rfl
    · exact .inl q
    · exact .inr r
  · obtain rfl := List.mem_singleton.mp hx
    exact ⟨List.mem_append_right _ hx, r⟩
  · rcases s x hx with q | rfl
    · exact absurd (F.cl x q _ (up_mem.mpr ⟨by omega, by omega⟩) (r.trans e.symm)) h
    · exact absurd (List.mem_singleton.mpr rfl) nl
theorem Dfs.stop {n i : Nat} {ts : List Tie} {ks0 ks : List Int} (F : Found n ts i ks0) (hi : i < n) (h : ((i : Int) + 1) ∉ ks0) (D : Dfs n ts ks0 ((i : Int) + 1) (fun _ => False) ks []) (r : kin ts ((i : Int) + 1) = (i : Int) + 1) : Found n ts (i + 1) ks := by
  have key : ∀ y, kin ts y = (i : Int) + 1 → y ∈ ks := fun y hy => by
    have := (kin_closed ts (fun x => x ∈ ks ∧ kin ts x = (i : Int) + 1) (fun t ht => ?_) ((i : Int) + 1) y (r.trans hy.symm)).mp ⟨D.here, r⟩
    · exact this.1
    · have e := kin_tie ts t ht
      constructor
      · rintro ⟨a, b⟩
        exact ⟨D.done _ a b (nomatch ·) id _ (.inl ht), e ▸ b⟩
      · rintro ⟨a, b⟩
        exact ⟨D.done _ a b (nomatch ·) id _ (.inr ht), e ▸ b⟩
  refine Found.more (i := i) ⟨D.nd, D.sub, fun x hx => D.old x (F.has x hx), fun x hx y hy e => ?_⟩ D.here
  rcases D.new x hx with q | q
  · exact D.old y (F.cl x q y hy e)
  · exact key y (e.trans q)
/-- the last one is taken to be looked at -/
theorem Dfs.take {n : Nat} {ts : List Tie} {ks0 ks la : List Int} {s u : Int} (D : Dfs n ts ks0 s (fun _ => False) ks (la ++ [u])) : Dfs n ts ks0 s (· = u) ks la :=
  ⟨D.nd, D.sub, D.old, D.new, D.here, fun x hx => D.st x (List.mem_append_left _ hx), fun x hx e nl nu => D.done x hx e (fun z => by
    rcases List.mem_append.mp z with z | z
    · exact nl z
    · exact nu (List.mem_singleton.mp z)) id⟩
theorem Dfs.push {n : Nat} {ts : List Tie} {ks0 ks la : List Int} {s u y : Int} (D : Dfs n ts ks0 s (· = u) ks la) (h : y ∉ ks) (hy : y ∈ up n) (e : kin ts y = s) : Dfs n ts ks0 s (· = u) (ks ++ [y]) (la ++ [y]) := by
  have s' : ∀ x, x ∈ ks ++ [y] → x ∈ ks ∨ x = y := fun x hx => (List.mem_append.mp hx).imp id List.mem_singleton.mp
  refine ⟨List.nodup_append.mpr ⟨D.nd, List.nodup_cons.mpr ⟨(nomatch ·), List.nodup_nil⟩, fun a ha b hb z => h ?_⟩, fun x hx => ?_, fun x hx => List.mem_append_left _ (D.old x hx), fun x hx => ?_, List.mem_append_left _ D.here, fun x hx => ?_, fun x hx e' nl nu z hz => ?_⟩
  · rw [← List.mem_singleton.mp hb, ← z]; exact ha
  · rcases s' x hx with q | rfl
    · exact D.sub x q
    · exact hy
  · rcases s' x hx with q | rfl
    · exact D.new x q
    · exact .inr e
  · rcases List.mem_append.mp hx with q | q
    · exact ⟨List.mem_append_left _ (D.st x q).1, (D.st x q).2⟩
    · obtain rfl := List.mem_singleton.mp q
      exact ⟨List.mem_append_right _ q, e⟩
  · rcases s' x hx with q | rfl
    · exact List.mem_append_left _ (D.done x q e' (fun c => nl (List.mem_append_left _ c)) nu z hz)
    · exact absurd (List.mem_append_right _ (List.mem_singleton.mpr rfl)) nl
theorem Dfs.end {n : Nat} {ts : List Tie} {ks0 ks la : List Int} {s u : Int} (D : Dfs n ts ks0 s (· = u) ks la) (h : ∀ y, (u, y) ∈ ts ∨ (y, u) ∈ ts → y ∈ ks) : Dfs n ts ks0 s (fun _ => False) ks la :=
  ⟨D.nd, D.sub, D.old, D.new, D.here, D.st, fun x hx e nl _ y hy => by
    by_cases c : x = u
    · subst c; exact h y hy
    · exact D.done x hx e nl c y hy⟩
/-- the parts, by their least seats -/
def rootsOf (ts : List Tie) (n : Nat) : List Int := (up n).filter fun r => kin ts r = r
def partOf (ts : List Tie) (n : Nat) (r : Int) : List Int := (up n).filter fun x => kin ts x = r
def partsOf (n : Nat) (ts : List Tie) : List (List Int) := (rootsOf ts n).map (partOf ts n)
def intsD (ns : List Int) : PySem.PyData := .list (ns.map PySem.PyData.int)
def listsD (ls : List (List Int)) : PySem.PyData := .list (ls.map intsD)
theorem up_succ (n : Nat) : up (n + 1) = up n ++ [(n : Int) + 1] := by
  unfold up
  rw [List.range_succ, List.map_append]
  simp [Int.add_comm]
end Ap


/-! K4: how long a repr gets. -/
namespace Ap
open PySem L2 PySem.Spec
theorem textFrom_up : ∀ (ts : List Str) (k : Nat) (acc : Str), (textFrom k acc ts).length ≤ acc.length + piled ts
  | [], _, acc => Nat.le_refl _
  | t :: r, k, acc => by
    have h := textFrom_up r (k + 1) (acc ++ (if k > 0 then ", " else "" : String) ++ t)
    rw [strLen_append, strLen_append] at h
    have h2 : ((if k > 0 then ", " else "" : String) : Str).length ≤ 2 := by split <;> decide
    have h3 : piled (t :: r) = t.length + 2 + piled r := by simp [piled]
    show (textFrom (k + 1) (acc ++ (if k > 0 then ", " else "" : String) ++ t) r).length ≤ _
    omega
theorem listText_up (ts : List Str) : (listText ts).length ≤ piled ts + 2 := by
  unfold listText
  rw [strLen_append]
  have h := textFrom_up ts 0 "["
  have h1 : (("[" : String) : Str).length = 1 := by decide
  have h2 : (("]" : String) : Str).length = 1 := by decide
  omega
theorem shownAll_map : ∀ xs : List PyData, PyData.shownAll xs = xs.map PyData.shown
  | [] => by simp only [PyData.shownAll, List.map_nil]
  | x :: r => by simp only [PyData.shownAll, List.map_cons, shownAll_map r]
/-- items of at most b signs each -/
theorem list_up {xs : List PyData} {b : Nat} (h : ∀ x ∈ xs, x.shown.length ≤ b) : (PyData.list xs).shown.length ≤ (b + 2) * xs.length + 2 := by
  simp only [PyData.shown, shownAll_map]
  refine Nat.le_trans (listText_up _) (Nat.add_le_add_right ?_ 2)
  induction xs with
  | nil => simp [piled]
  | cons x r ih =>
    have h1 := h x List.mem_cons_self
    have h2 := ih fun y hy => h y (List.mem_cons_of_mem _ hy)
    have h3 : piled ((x :: r).map PyData.shown) = x.shown.length + 2 + piled (r.map PyData.shown) := by simp [piled]
    rw [h3, List.length_cons, Nat.mul_add]
    omega
theorem showAll {xs : List PyData} (h : ∀ x ∈ xs, x.showable = true) : (PyData.list xs).showable = true := by
  simp only [PyData.showable]
  induction xs with
  | nil => simp only [PyData.showableAll]
  | cons x r ih => simp only [PyData.showableAll, h x List.mem_cons_self, ih fun y hy => h y (List.mem_cons_of_mem _ hy), Bool.and_self]
theorem depthAll {xs : List PyData} {b : Nat} (h : ∀ x ∈ xs, x.depth ≤ b) : (PyData.list xs).depth ≤ b + 1 := by
  simp only [PyData.depth]
  induction xs with
  | nil => simp only [PyData.depthAll]; omega
  | cons x r ih =>
    have h1 := h x List.mem_cons_self
    have h2 := ih fun y hy => h y (List.mem_cons_of_mem _ hy)
    simp only [PyData.depthAll]
    omega
/-- can be shown, within b signs, d deep -/
structure Shw (x : PyData) (b d : Nat) : Prop where
  ok : x.showable = true
  len : x.shown.length ≤ b
  dp : x.depth ≤ d
theorem Shw.list {xs : List PyData} {b d n : Nat} (h : ∀ x ∈ xs, Shw x b d) (hn : xs.length ≤ n) : Shw (.list xs) ((b + 2) * n + 2) (d + 1) :=
  ⟨showAll fun x hx => (h x hx).ok, Nat.le_trans (list_up fun x hx => (h x hx).len) (Nat.add_le_add_right (Nat.mul_le_mul_left _ hn) 2), depthAll fun x hx => (h x hx).dp⟩
theorem small_len : ∀ i : Fin 100, ((toString ((i.val : Nat) : Int) : String) : Str).length ≤ 2 := by decide +kernel
theorem Shw.int {i : Int} (h1 : 0 ≤ i) (h2 : i < 100) : Shw (.int i) 2 0 := by
  obtain ⟨k, rfl⟩ : ∃ k : Nat, i = k := ⟨i.toNat, by omega⟩
  refine ⟨?_, ?_, by simp only [PyData.depth]; omega⟩
  · simp only [PyData.showable]
    refine decide_eq_true (Nat.lt_of_le_of_lt (Nat.log2_le_self _) ?_)
    show (k : Int).natAbs < 1920
    omega
  · simp only [PyData.shown]
    exact small_len ⟨k, by omega⟩
theorem Shw.bool (b : Bool) : Shw (.bool b) 5 0 := by
  refine ⟨by simp only [PyData.showable], ?_, by simp only [PyData.depth]; omega⟩
  simp only [PyData.shown]
  cases b <;> decide
theorem Shw.ints {ns : List Int} {n : Nat} (h : ∀ x ∈ ns, 0 ≤ x ∧ x < 100) (hn : ns.length ≤ n) : Shw (intsD ns) (4 * n + 2) 1 :=
  Shw.list (b := 2) (d := 0) (fun x hx => by
    obtain ⟨i, hi, rfl⟩ := List.mem_map.mp hx
    exact Shw.int (h i hi).1 (h i hi).2) (by rw [List.length_map]; exact hn)
theorem Shw.net {n : Nat} {ts : List Tie} (h : NetS (up n) ts) (hn : n ≤ 40) (few : ts.length ≤ 900) : Shw (netD ts) 20000 2 := by
  have := Shw.list (xs := ts.map tieD) (b := 10) (d := 1) (n := 900) (fun x hx => by
    obtain ⟨t, ht, rfl⟩ := List.mem_map.mp hx
    obtain ⟨m1, m2, _⟩ := h.mem t ht
    have b1 := up_mem.mp m1
    have b2 := up_mem.mp m2
    exact Shw.ints (ns := [t.1, t.2]) (n := 2) (fun x hx => by
      simp at hx
      rcases hx with rfl | rfl
      · omega
      · omega) (Nat.le_refl _)) (by rw [List.length_map]; exact few)
  exact ⟨this.ok, Nat.le_trans this.len (by decide), this.dp⟩
theorem Shw.parts {n : Nat} {ts : List Tie} (hn : n ≤ 40) : Shw (listsD (partsOf n ts)) 8000 2 := by
  have sub : ∀ {p : Int → Bool}, ((up n).filter p).length ≤ 40 := fun {p} => Nat.le_trans (List.length_filter_le _ _) (by rw [up_length]; exact hn)
  have := Shw.list (xs := (partsOf n ts).map intsD) (b := 4 * 40 + 2) (d := 1) (n := 40) (fun x hx => by
    obtain ⟨l, hl, rfl⟩ := List.mem_map.mp hx
    obtain ⟨r, _, rfl⟩ := List.mem_map.mp hl
    exact Shw.ints (fun y hy => by
      have := up_mem.mp (List.mem_filter.mp hy).1
      omega) sub) (by rw [List.length_map]; unfold partsOf; rw [List.length_map]; exact sub)
  exact ⟨this.ok, Nat.le_trans this.len (by decide), this.dp⟩
theorem Shw.two {a b : PyData} {n d : Nat} (h1 : Shw a n d) (h2 : Shw b n d) : Shw (.list [a, b]) ((n + 2) * 2 + 2) (d + 1) :=
  Shw.list (fun x hx => by
    simp at hx
    rcases hx with rfl | rfl
    · exact h1
    · exact h2) (Nat.le_refl _)
theorem g_rep {K : PySem.W.Frag} {H : Hp} {Q : VK} {p : Addr} {d : PyData} {b e : Nat} (hd : Dp K H (.ref p) d) (s : Shw d b e) (hb : b ≤ 1000000) (he : e < 60) (h : Q (.str d.shown) H) : rRep K [.ref p] H Q :=
  g_repr hd s.ok (Nat.lt_of_le_of_lt s.dp he) (Nat.le_trans s.len (triv_sz hb)) h
end Ap


/-! K5: more steps: lists put together, turned round; permuted data. -/
namespace Ap
open PySem L2 PySem.Spec PyProof.Rows
section
variable {K : PySem.W.Frag} {σ : L2.St} {H : Hp} {Q : VK} {te : TE}
theorem g_cat {l b : Addr} {xs zs : List V} (e : H l = some (.lst xs)) (e2 : H b = some (.lst zs)) (h : xs.length + zs.length ≤ sizeLine) (k : ∀ p, H p = none → Q (.ref p) (upd H p (.lst (xs ++ zs)))) : rCat (.ref l) (.ref b) H Q := ⟨l, b, xs, zs, rfl, rfl, e, e2, h, k⟩
def kRv (K : PySem.W.Frag) (Q : VK) : VK := fun x H1 => ∃ a xs, x = .ref a ∧ SqL K H1 a xs ∧ ∀ p, H1 p = none → Q (.ref p) (upd H1 p (.lst xs.reverse))
instance i_revL : St (tRevL K te σ H Q) (te σ H (kRv K Q)) := ⟨id⟩
theorem g_kRv {a : Addr} {xs : List V} (e : H a = some (.lst xs)) (h : ∀ p, H p = none → Q (.ref p) (upd H p (.lst xs.reverse))) : kRv K Q (.ref a) H := ⟨a, xs, rfl, SqL.of e, h⟩
end
theorem cut_any {xs : List V} {k : Nat} {i : Int} (e : i = (k : Int)) : cutV xs none (some i) = xs.take k := by
  subst e
  unfold cutV
  rw [HT.sIx_none, HT.sIx_nat, List.drop_zero, Nat.sub_zero]
  by_cases h : k ≤ xs.length
  · rw [Nat.min_eq_left h]
  · rw [Nat.min_eq_right (by omega), List.take_of_length_le (Nat.le_refl _), List.take_of_length_le (by omega)]
/-- data in another order -/
theorem DaAll.perm {α : Type} {f : α → PyData} {P : Addr → Prop} {H : Hp} {ys xs : List V} (p : ys.Perm xs) : ∀ {ts : List α}, DaAll P H xs (ts.map f) → ∃ us : List α, us.Perm ts ∧ DaAll P H ys (us.map f) := by
  induction p with
  | nil =>
    intro ts h
    match ts, h with
    | [], h => exact ⟨[], .nil, h⟩
  | cons x _ ih =>
    intro ts h
    match ts, h with
    | t :: r, .cons h1 h2 =>
      obtain ⟨us, p, h⟩ := ih h2
      exact ⟨t :: us, p.cons t, .cons h1 h⟩
  | swap x y l =>
    intro ts h
    match ts, h with
    | t :: u :: r, .cons h1 (.cons h2 h3) => exact ⟨u :: t :: r, .swap t u r, .cons h2 (.cons h1 h3)⟩
  | trans _ _ ih1 ih2 =>
    intro ts h
    obtain ⟨us, p, h⟩ := ih2 h
    obtain ⟨ws, p2, h⟩ := ih1 h
    exact ⟨ws, p2.trans p, h⟩
theorem Apart.symm {s t : Tie} (h : Apart s t) : Apart t s := ⟨fun z => h.1 ⟨z.1.symm, z.2.symm⟩, fun z => h.2 ⟨z.2.symm, z.1.symm⟩⟩
theorem NetS.perm {S : List Int} {ts us : List Tie} (h : NetS S ts) (p : us.Perm ts) : NetS S us :=
  ⟨fun t ht => h.mem t (p.mem_iff.mp ht), (List.Perm.pairwise_iff (fun {_ _} => Apart.symm) p).mpr h.ap⟩
/-- the same tie, its seats perhaps the other way -/
def Sw (t s : Tie) : Prop := s = t ∨ s = (t.2, t.1)
theorem Sw.apart {a b c d : Tie} (h : Apart a b) (h1 : Sw a c) (h2 : Sw b d) : Apart c d := by
  obtain ⟨p, q⟩ := h
  rcases h1 with rfl | rfl
  · rcases h2 with rfl | rfl
    · exact ⟨p, q⟩
    · exact ⟨q, p⟩
  · rcases h2 with rfl | rfl
    · exact ⟨fun z => q ⟨z.2, z.1⟩, fun z => p ⟨z.2, z.1⟩⟩
    · exact ⟨fun z => p ⟨z.2, z.1⟩, fun z => q ⟨z.2, z.1⟩⟩
theorem NetS.turn {S : List Int} {us ps : List Tie} (h : NetS S us) (l : ps.length = us.length) (r : ∀ (k : Nat) t s, us[k]? = some t → ps[k]? = some s → Sw t s) : NetS S ps := by
  constructor
  · intro s hs
    obtain ⟨k, hk, rfl⟩ := List.getElem_of_mem hs
    have := r k us[k] ps[k] (List.getElem?_eq_getElem (by omega)) (List.getElem?_eq_getElem hk)
    obtain ⟨a, b, c⟩ := h.mem us[k] (List.getElem_mem (by omega))
    rcases this with e | e
    · rw [e]; exact ⟨a, b, c⟩
    · rw [e]; exact ⟨b, a, Ne.symm c⟩
  · refine List.pairwise_iff_getElem.mpr fun i j hi hj lt => ?_
    have ap := List.pairwise_iff_getElem.mp h.ap i j (by omega) (by omega) lt
    exact Sw.apart ap (r i _ _ (List.getElem?_eq_getElem (by omega)) (List.getElem?_eq_getElem hi)) (r j _ _ (List.getElem?_eq_getElem (by omega)) (List.getElem?_eq_getElem hj))
theorem DaAll.take {P : Addr → Prop} {H : Hp} : ∀ (k : Nat) {vs : List V} {ds : List PyData}, DaAll P H vs ds → DaAll P H (vs.take k) (ds.take k)
  | 0, _, _, _ => .nil
  | k + 1, _, _, .nil => .nil
  | k + 1, _, _, .cons h t => .cons h (DaAll.take k t)
end Ap


namespace Ap
open PySem L2
def topS (i : Nat) : Stmt := PySem.Challenge.pw_apartcalls_k01_nets.main.body.getD i (.Pass ⟨0, 0, 0, 0⟩)
abbrev s_is_whole : Stmt := topS 6
theorem sc_is_whole : FnScope ["thing"] ["thing"] (defScope s_is_whole) := ⟨rfl, rfl, rfl, by decide +kernel, rfl, by decide +kernel, by decide +kernel⟩
abbrev s_is_within : Stmt := topS 7
theorem sc_is_within : FnScope ["thing", "most"] ["thing", "most"] (defScope s_is_within) := ⟨rfl, rfl, rfl, by decide +kernel, rfl, by decide +kernel, by decide +kernel⟩
abbrev s_check_seats : Stmt := topS 8
theorem sc_check_seats : FnScope ["seats"] ["seats"] (defScope s_check_seats) := ⟨rfl, rfl, rfl, by decide +kernel, rfl, by decide +kernel, by decide +kernel⟩
abbrev s_check_ties : Stmt := topS 9
theorem sc_check_ties : FnScope ["seats", "ties", "seen", "index", "tie"] ["seats", "ties"] (defScope s_check_ties) := ⟨rfl, rfl, rfl, by decide +kernel, rfl, by decide +kernel, by decide +kernel⟩
abbrev s_check_net : Stmt := topS 10
theorem sc_check_net : FnScope ["seats", "ties"] ["seats", "ties"] (defScope s_check_net) := ⟨rfl, rfl, rfl, by decide +kernel, rfl, by decide +kernel, by decide +kernel⟩
abbrev s_near_in : Stmt := topS 11
theorem sc_near_in : FnScope ["seats", "ties", "near", "one", "two", "seat"] ["seats", "ties"] (defScope s_near_in) := ⟨rfl, rfl, rfl, by decide +kernel, rfl, by decide +kernel, by decide +kernel⟩
abbrev s_parts_in : Stmt := topS 12
theorem sc_parts_in : FnScope ["seats", "ties", "near", "least", "seat", "last", "here", "other", "told"] ["seats", "ties"] (defScope s_parts_in) := ⟨rfl, rfl, rfl, by decide +kernel, rfl, by decide +kernel, by decide +kernel⟩
abbrev s_is_wood_in : Stmt := topS 13
theorem sc_is_wood_in : FnScope ["seats", "ties"] ["seats", "ties"] (defScope s_is_wood_in) := ⟨rfl, rfl, rfl, by decide +kernel, rfl, by decide +kernel, by decide +kernel⟩
abbrev s_is_row_in : Stmt := topS 14
theorem sc_is_row_in : FnScope ["seats", "ties", "some"] ["seats", "ties"] (defScope s_is_row_in) := ⟨rfl, rfl, rfl, by decide +kernel, rfl, by decide +kernel, by decide +kernel⟩
abbrev s_parts : Stmt := topS 15
theorem sc_parts : FnScope ["seats", "ties"] ["seats", "ties"] (defScope s_parts) := ⟨rfl, rfl, rfl, by decide +kernel, rfl, by decide +kernel, by decide +kernel⟩
abbrev s_is_wood : Stmt := topS 16
theorem sc_is_wood : FnScope ["seats", "ties"] ["seats", "ties"] (defScope s_is_wood) := ⟨rfl, rfl, rfl, by decide +kernel, rfl, by decide +kernel, by decide +kernel⟩
abbrev s_is_row : Stmt := topS 17
theorem sc_is_row : FnScope ["seats", "ties"] ["seats", "ties"] (defScope s_is_row) := ⟨rfl, rfl, rfl, by decide +kernel, rfl, by decide +kernel, by decide +kernel⟩
abbrev s_Ldraws : Stmt := topS 19
theorem sc_Ldraws : FnScope ["_law_cell"] ["_law_cell"] (defScope s_Ldraws) := ⟨rfl, rfl, rfl, by decide +kernel, rfl, by decide +kernel, by decide +kernel⟩
abbrev s_Lnext : Stmt := topS 20
theorem sc_Lnext : FnScope ["_law_draws_here", "_law_k", "_law_number"] ["_law_draws_here"] (defScope s_Lnext) := ⟨rfl, rfl, rfl, by decide +kernel, rfl, by decide +kernel, by decide +kernel⟩
abbrev s_Lmixed : Stmt := topS 21
theorem sc_Lmixed : FnScope ["_law_draws_here", "_law_some", "_law_left", "_law_told"] ["_law_draws_here", "_law_some"] (defScope s_Lmixed) := ⟨rfl, rfl, rfl, by decide +kernel, rfl, by decide +kernel, by decide +kernel⟩
abbrev s_Lnet : Stmt := topS 22
theorem sc_Lnet : FnScope ["_law_draws_here", "_law_most", "_law_seats", "_law_kind", "_law_line", "_law_ties", "_law_at", "_law_pick", "_law_other"] ["_law_draws_here", "_law_most"] (defScope s_Lnet) := ⟨rfl, rfl, rfl, by decide +kernel, rfl, by decide +kernel, by decide +kernel⟩
abbrev s_Lparts : Stmt := topS 23
theorem sc_Lparts : FnScope ["_law_seats", "_law_ties", "_law_mark", "_law_one", "_law_two", "_law_low", "_law_high", "_law_least", "_law_each", "_law_seat"] ["_law_seats", "_law_ties"] (defScope s_Lparts) := ⟨rfl, rfl, rfl, by decide +kernel, rfl, by decide +kernel, by decide +kernel⟩
abbrev s_Lright : Stmt := topS 24
theorem sc_Lright : FnScope ["_law_seats", "_law_ties", "_law_before", "_law_due", "_law_wood", "_law_most", "_law_row", "_law_told", "_law_part", "_law_seat", "_law_pair"] ["_law_seats", "_law_ties"] (defScope s_Lright) := ⟨rfl, rfl, rfl, by decide +kernel, rfl, by decide +kernel, by decide +kernel⟩
abbrev s_law : Stmt := topS 25
theorem sc_law : FnScope ["_law_script", "_law_draws_here", "_law_most", "_law_seats", "_law_ties", "_law_turned", "_law_row", "_law_star", "_law_cell", "_law_seat", "_law_pair"] ["_law_script"] (defScope s_law) := ⟨rfl, rfl, rfl, by decide +kernel, rfl, by decide +kernel, by decide +kernel⟩
structure Txt (K : PySem.W.Frag) (mg : Str → Option Value) (base : Heap) where
  n_all : mg "all" = none
  n_bool : mg "bool" = none
  n_enumerate : mg "enumerate" = none
  n_int : mg "int" = none
  n_isinstance : mg "isinstance" = none
  n_len : mg "len" = none
  n_list : mg "list" = none
  n_max : mg "max" = none
  n_min : mg "min" = none
  n_range : mg "range" = none
  n_repr : mg "repr" = none
  n_set : mg "set" = none
  n_sorted : mg "sorted" = none
  t_FEWEST_SEATS : Tok
  v_FEWEST_SEATS : mg "FEWEST_SEATS" = some (.int 3 t_FEWEST_SEATS)
  t_MOST_SEATS : Tok
  v_MOST_SEATS : mg "MOST_SEATS" = some (.int 40 t_MOST_SEATS)
  a_is_whole : Addr
  fd_is_whole : FuncData
  F_is_whole : Fun K "is_whole" "is_whole" s_is_whole a_is_whole fd_is_whole
  m_is_whole : mg "is_whole" = some (.ref a_is_whole)
  b_is_whole : Binds K fd_is_whole ["thing"] []
  a_is_within : Addr
  fd_is_within : FuncData
  F_is_within : Fun K "is_within" "is_within" s_is_within a_is_within fd_is_within
  m_is_within : mg "is_within" = some (.ref a_is_within)
  b_is_within : Binds K fd_is_within ["thing", "most"] []
  a_check_seats : Addr
  fd_check_seats : FuncData
  F_check_seats : Fun K "check_seats" "check_seats" s_check_seats a_check_seats fd_check_seats
  m_check_seats : mg "check_seats" = some (.ref a_check_seats)
  b_check_seats : Binds K fd_check_seats ["seats"] []
  a_check_ties : Addr
  fd_check_ties : FuncData
  F_check_ties : Fun K "check_ties" "check_ties" s_check_ties a_check_ties fd_check_ties
  m_check_ties : mg "check_ties" = some (.ref a_check_ties)
  b_check_ties : Binds K fd_check_ties ["seats", "ties"] []
  c_check_ties : Addr
  p_check_ties : Addr
  k_check_ties : fd_check_ties.code = .ref c_check_ties
  TB_check_ties : GxR.TabB base mg c_check_ties p_check_ties
  a_check_net : Addr
  fd_check_net : FuncData
  F_check_net : Fun K "check_net" "check_net" s_check_net a_check_net fd_check_net
  m_check_net : mg "check_net" = some (.ref a_check_net)
  b_check_net : Binds K fd_check_net ["seats", "ties"] []
  a_near_in : Addr
  fd_near_in : FuncData
  F_near_in : Fun K "near_in" "near_in" s_near_in a_near_in fd_near_in
  m_near_in : mg "near_in" = some (.ref a_near_in)
  b_near_in : Binds K fd_near_in ["seats", "ties"] []
  a_parts_in : Addr
  fd_parts_in : FuncData
  F_parts_in : Fun K "parts_in" "parts_in" s_parts_in a_parts_in fd_parts_in
  m_parts_in : mg "parts_in" = some (.ref a_parts_in)
  b_parts_in : Binds K fd_parts_in ["seats", "ties"] []
  a_is_wood_in : Addr
  fd_is_wood_in : FuncData
  F_is_wood_in : Fun K "is_wood_in" "is_wood_in" s_is_wood_in a_is_wood_in fd_is_wood_in
  m_is_wood_in : mg "is_wood_in" = some (.ref a_is_wood_in)
  b_is_wood_in : Binds K fd_is_wood_in ["seats", "ties"] []
  a_is_row_in : Addr
  fd_is_row_in : FuncData
  F_is_row_in : Fun K "is_row_in" "is_row_in" s_is_row_in a_is_row_in fd_is_row_in
  m_is_row_in : mg "is_row_in" = some (.ref a_is_row_in)
  b_is_row_in : Binds K fd_is_row_in ["seats", "ties"] []
  a_parts : Addr
  fd_parts : FuncData
  F_parts : Fun K "parts" "parts" s_parts a_parts fd_parts
  m_parts : mg "parts" = some (.ref a_parts)
  b_parts : Binds K fd_parts ["seats", "ties"] []
  a_is_wood : Addr
  fd_is_wood : FuncData
  F_is_wood : Fun K "is_wood" "is_wood" s_is_wood a_is_wood fd_is_wood
  m_is_wood : mg "is_wood" = some (.ref a_is_wood)
  b_is_wood : Binds K fd_is_wood ["seats", "ties"] []
  a_is_row : Addr
  fd_is_row : FuncData
  F_is_row : Fun K "is_row" "is_row" s_is_row a_is_row fd_is_row
  m_is_row : mg "is_row" = some (.ref a_is_row)
  b_is_row : Binds K fd_is_row ["seats", "ties"] []
  a_Ldraws : Addr
  fd_Ldraws : FuncData
  F_Ldraws : Fun K "_law_draws" "_law_draws" s_Ldraws a_Ldraws fd_Ldraws
  m_Ldraws : mg "_law_draws" = some (.ref a_Ldraws)
  b_Ldraws : Binds K fd_Ldraws ["_law_cell"] []
  a_Lnext : Addr
  fd_Lnext : FuncData
  F_Lnext : Fun K "_law_next" "_law_next" s_Lnext a_Lnext fd_Lnext
  m_Lnext : mg "_law_next" = some (.ref a_Lnext)
  b_Lnext : Binds K fd_Lnext ["_law_draws_here"] []
  a_Lmixed : Addr
  fd_Lmixed : FuncData
  F_Lmixed : Fun K "_law_mixed" "_law_mixed" s_Lmixed a_Lmixed fd_Lmixed
  m_Lmixed : mg "_law_mixed" = some (.ref a_Lmixed)
  b_Lmixed : Binds K fd_Lmixed ["_law_draws_here", "_law_some"] []
  a_Lnet : Addr
  fd_Lnet : FuncData
  F_Lnet : Fun K "_law_net" "_law_net" s_Lnet a_Lnet fd_Lnet
  m_Lnet : mg "_law_net" = some (.ref a_Lnet)
  b_Lnet : Binds K fd_Lnet ["_law_draws_here", "_law_most"] []
  a_Lparts : Addr
  fd_Lparts : FuncData
  F_Lparts : Fun K "_law_parts" "_law_parts" s_Lparts a_Lparts fd_Lparts
  m_Lparts : mg "_law_parts" = some (.ref a_Lparts)
  b_Lparts : Binds K fd_Lparts ["_law_seats", "_law_ties"] []
  a_Lright : Addr
  fd_Lright : FuncData
  F_Lright : Fun K "_law_right" "_law_right" s_Lright a_Lright fd_Lright
  m_Lright : mg "_law_right" = some (.ref a_Lright)
  b_Lright : Binds K fd_Lright ["_law_seats", "_law_ties"] []
  a_law : Addr
  fd_law : FuncData
  F_law : Fun K "law" "law" s_law a_law fd_law
  m_law : mg "law" = some (.ref a_law)
  b_law : Binds K fd_law ["_law_script"] []
def Txt.tbs {K : PySem.W.Frag} {mg : Str → Option Value} {base : Heap} (T : Txt K mg base) : List Addr := [T.p_check_ties]
end Ap


open PySem L2 Ap
local macro_rules | `(tactic| walk_at "ne") => `(tactic| first
  | assumption
  | exact Ne.symm (by assumption)
  | exact ne_nn (by assumption) (by walk_at "look")
  | exact Ne.symm (ne_nn (by assumption) (by walk_at "look"))
  | exact ne_kd (by assumption) (by assumption) (by with_unfolding_all rfl))
local macro_rules | `(tactic| walk_at "nin") => `(tactic| first
  | exact nin0
  | exact nin1 (by walk_at "ne")
  | exact nin2 (by walk_at "ne") (by walk_at "ne")
  | assumption)
local macro_rules | `(tactic| walk_at "look") => `(tactic| first
  | assumption
  | exact upd_same
  | exact (upd_ne (by walk_at "ne")).trans (by walk_at "look")
  | exact Kp.look (by assumption) (by walk_at "nin") (by walk_at "look") (ntb (by with_unfolding_all rfl)))
local macro_rules | `(tactic| walk_at "s1") => `(tactic| refine St.go ?_)
local macro_rules | `(tactic| walk_at "s2") => `(tactic| first
  | ((with_reducible refine' g_ixL ?hl ?ha ?_); (case hl => walk_at "look"); (case ha => first | assumption | with_unfolding_all rfl))
  | ((with_reducible refine' g_ixT ?hl ?ha ?_); (case hl => walk_at "look"); (case ha => first | assumption | with_unfolding_all rfl))
  | ((with_reducible refine' g_setL0 ?hl ?_); (case hl => walk_at "look"))
  | ((with_reducible refine' g_setL1 ?hl ?_); (case hl => walk_at "look"))
  | ((with_reducible refine' g_setL ?hl ?ha ?_); (case hl => walk_at "look"); (case ha => first | assumption | with_unfolding_all rfl))
  | ((with_reducible refine' g_kBMl ?hl ?_); (case hl => walk_at "look"))
  | ((with_reducible refine' g_kBM0l ?hl ?_); (case hl => walk_at "look"))
  | ((with_reducible refine' g_len ?hl ?_); (case hl => walk_at "look"))
  | ((with_reducible refine' g_lenT ?hl ?_); (case hl => walk_at "look"))
  | ((with_reducible refine' g_kIL ?hl ?_); (case hl => walk_at "look"))
  | ((with_reducible refine' g_gTup ?hl ?hn ?_); (case hl => walk_at "look"); (case hn => with_unfolding_all rfl))
  | ((with_reducible refine' g_gLst ?hl ?hn ?_); (case hl => walk_at "look"); (case hn => with_unfolding_all rfl))
  | ((with_reducible refine' g_kIEn ?hl ?_); (case hl => walk_at "look"))
  | ((with_reducible refine' g_kAd ?hl ?_); (case hl => walk_at "look"))
  | ((with_reducible refine' g_sd ?hl ?_); (case hl => walk_at "look"))
  | ((with_reducible refine' g_kVl ?hl ?_); (case hl => walk_at "look"); (intro _ _))
  | ((with_reducible refine' g_slL ?hl ?_); (case hl => walk_at "look"); (intro _ _))
  | ((with_reducible refine' g_inS ?hl ?hf ?hg ?_); (case hl => walk_at "look"); (case hf => first | rfl | assumption); (case hg => first | rfl | assumption))
  | ((with_reducible refine' g_niS ?hl ?hf ?hg ?_); (case hl => walk_at "look"); (case hf => first | rfl | assumption); (case hg => first | rfl | assumption))
  | ((with_reducible refine' g_neE ?hl ?hm ?_); (case hl => walk_at "look"); (case hm => walk_at "look"))
  | ((with_reducible refine' g_eqE ?hl ?hm ?_); (case hl => walk_at "look"); (case hm => walk_at "look"))
  | ((with_reducible refine g_rI ?hc ?_); (case hc => walk_at "cond"))
  | ((with_reducible refine g_kL ?hl ?_); (case hl => with_unfolding_all rfl); intro _ _)
  | ((with_reducible refine g_kTu ?hl ?_); (case hl => with_unfolding_all rfl); intro _ _)
  | ((with_reducible refine' g_list ?hl ?_); (case hl => walk_at "look"); intro _ _)
  | ((with_reducible refine g_kRg ?hl ?_); (case hl => omega); intro _ _)
  | ((with_reducible refine g_kIR1 ?hl ?_); (case hl => omega))
  | ((with_reducible refine g_kIR2 ?hl ?_); (case hl => omega)))
local macro_rules | `(tactic| walk_at "cond") => `(tactic| first
  | decide
  | (show (0 : Int) < _; omega)
  | (refine Or.inl ?_; omega)
  | (refine Or.inr ?_; omega)
  | (show (0 : Int) < _ ∧ _ < (1073741824 : Int); omega)
  | exact ⟨by decide +kernel, by decide +kernel⟩
  | assumption)
local macro_rules | `(tactic| walk_at "go") => `(tactic| repeat (first | walk_at "s1" | walk_at "s2"))

namespace Ap
open PySem L2 PySem.Spec PyProof.Rows
/-- a value and whether it is a whole number -/
inductive Wh (K : PySem.W.Frag) (H : Hp) : V → Option Int → Prop
  | int (i : Int) : Wh K H (.int i) (some i)
  | bl (b : Bool) : Wh K H (.bl b) none
  | oth {v : V} {T : String} : TyX K H v (.type T) → kitB T "int" = some false → Wh K H v none
/-- 1 <= it <= n -/
def inI (o : Option Int) (n : Int) : Bool := match o with
  | some i => decide (1 ≤ i) && decide (i ≤ n)
  | none => false
def spWhole (K : PySem.W.Frag) : Sp := fun vs H Q _ => ∃ v o, vs = [v] ∧ Wh K H v o ∧ Q (.bl o.isSome) H
def spWithin (K : PySem.W.Frag) : Sp := fun vs H Q _ => ∃ v o n, vs = [v, .int n] ∧ Wh K H v o ∧ Q (.bl (inI o n)) H
section
variable {P : Program} {w : World} {K : PySem.W.Frag} {mg : Str → Option Value} {base : Heap}
theorem ok_is_whole (T : Txt K mg base) : FnG P w K mg base CX0 1 T.a_is_whole T.fd_is_whole ["thing"] (spWhole K) := by
  refine fnG_of0 T.F_is_whole sc_is_whole (fun vs H Q E h => ?_) (fun cdv A outer s H vs Q E hcd hr gd h => ?_)
  · obtain ⟨v, o, rfl, _⟩ := h
    rfl
  · obtain ⟨v, o, rfl, ho, q⟩ := h
    refine ⟨_, (pss_one (ps_ret (pe_and (pe_callB call_isi (by rfl) T.n_isinstance (by decide +kernel) (pa_cons (pv 0) (pa_cons (pe_bltn (v := .ty "int") (u := .type "int") rfl T.n_int (by decide +kernel) rfl) pa_nil))) (pe_one (pe_not (pe_callB call_isi (by rfl) T.n_isinstance (by decide +kernel) (pa_cons (pv 0) (pa_cons (pe_bltn (v := .ty "bool") (u := .type "bool") rfl T.n_bool (by decide +kernel) rfl) pa_nil)))))))), ?_⟩
    rw [show start ["thing"] [v] = [some (v)] from rfl]
    walk_at "go"
    cases ho with
    | int i =>
      refine g_isi (T' := "int") (.base (.int i)) (by decide +kernel : kitB "int" "int" = some true) ?_
      walk_at "go"
      refine g_isi (T' := "int") (.base (.int i)) (by decide +kernel : kitB "int" "bool" = some false) ?_
      walk_at "go"
      exact q
    | bl b =>
      refine g_isi (T' := "bool") (.base (.bl b)) (by decide +kernel : kitB "bool" "int" = some true) ?_
      walk_at "go"
      refine g_isi (T' := "bool") (.base (.bl b)) (by decide +kernel : kitB "bool" "bool" = some true) ?_
      walk_at "go"
      exact q
    | oth t k =>
      refine g_isi t k ?_
      walk_at "go"
      exact q
theorem ok_is_within (T : Txt K mg base) : FnG P w K mg base CX0 2 T.a_is_within T.fd_is_within ["thing", "most"] (spWithin K) := by
  refine fnG_of0 T.F_is_within sc_is_within (fun vs H Q E h => ?_) (fun cdv A outer s H vs Q E hcd hr gd h => ?_)
  · obtain ⟨v, o, n, rfl, _⟩ := h
    rfl
  · obtain ⟨v, o, n, rfl, ho, q⟩ := h
    refine ⟨_, (pss_one (ps_ret (pe_and (pe_callG (ok_is_whole T) (hr.mono (by decide)) gd rfl T.m_is_whole T.F_is_whole.kp T.b_is_whole .nil pass0 (pa_cons (pv 0) pa_nil)) (pe_one (pe_chain op_le op_le pe_int (pv 0) (pv 1)))))), ?_⟩
    rw [show start ["thing", "most"] [v, .int n] = [some (v), some (.int n)] from rfl]
    walk_at "go"
    refine ⟨v, o, rfl, ho, ?_⟩
    cases ho with
    | int i =>
      walk_at "go"
      refine g_kT ?_
      walk_at "go"
      refine g_kD (fun e => ?_) (fun e => ?_)
      · walk_at "go"
        have : inI (some i) n = decide (i ≤ n) := by simp [inI, e]
        rw [this] at q
        exact q
      · walk_at "go"
        have : inI (some i) n = false := by simp [inI, e]
        rw [this] at q
        exact q
    | bl b =>
      walk_at "go"
      refine g_kF ?_
      walk_at "go"
      exact q
    | oth t k =>
      walk_at "go"
      refine g_kF ?_
      walk_at "go"
      exact q
end
end Ap


namespace Ap
open PySem L2 PySem.Spec PyProof.Rows
/-- a value that is no reference and whether it is a whole number -/
inductive Fw : V → Option Int → Prop
  | int (i : Int) : Fw (.int i) (some i)
  | bl (b : Bool) : Fw (.bl b) none
  | non : Fw .non none
  | str (x : Str) : Fw (.str x) none
  | flt (x : UInt64) : Fw (.flt x) none
theorem Fw.wh {K : PySem.W.Frag} {H : Hp} {v : V} {o : Option Int} (h : Fw v o) : Wh K H v o := by
  cases h with
  | int i => exact .int i
  | bl b => exact .bl b
  | non => exact .oth (.base .non) (by decide +kernel : kitB "NoneType" "int" = some false)
  | str x => exact .oth (.base (.str x)) (by decide +kernel : kitB "str" "int" = some false)
  | flt x => exact .oth (.base (.flt x)) (by decide +kernel : kitB "float" "int" = some false)
theorem Fw.kit {K : PySem.W.Frag} {v : V} {u : Value} {o : Option Int} (h : Fw v o) (r : RelV v u) :
    (∃ i t, u = .int i t ∧ o = some i) ∨ (o = none ∧ ∃ T', PySem.W.KitX K u (.type T') (fun _ => True) ∧ u ≠ .builtin "__main__.__loader__#opaque" ∧ (kitB T' "int" = some false ∨ (kitB T' "int" = some true ∧ kitB T' "bool" = some true))) := by
  cases h with
  | int i => obtain ⟨t, e⟩ := (show ∃ t, u = Value.int i t from r); exact .inl ⟨i, t, e, rfl⟩
  | bl b => cases (show u = Value.bool b from r); exact .inr ⟨rfl, _, PySem.W.kitx_bool, fun z => (nomatch z), .inr ⟨by decide +kernel, by decide +kernel⟩⟩
  | non => cases (show u = Value.none from r); exact .inr ⟨rfl, _, PySem.W.kitx_none, fun z => (nomatch z), .inl (by decide +kernel)⟩
  | str x => obtain ⟨t, e⟩ := (show ∃ t, u = Value.str x t from r); cases e; exact .inr ⟨rfl, _, PySem.W.kitx_str, fun z => (nomatch z), .inl (by decide +kernel)⟩
  | flt x => obtain ⟨t, e⟩ := (show ∃ t, u = Value.float x t from r); cases e; exact .inr ⟨rfl, _, PySem.W.kitx_float, fun z => (nomatch z), .inl (by decide +kernel)⟩
section
variable {P : Program} {w : World} {K : PySem.W.Frag} {mg : Str → Option Value} {base : Heap}
theorem qf_whole (T : Txt K mg base) {v : V} {u : Value} {o : Option Int} (h : Fw v o) (r : RelV v u) : QF P w K mg 1 T.a_is_whole [u] (fun _ => True) (· = .bool o.isSome) := by
  refine qf_ret T.F_is_whole rfl rfl rfl (by decide) T.b_is_whole rfl rfl (fun _ _ _ _ => trivial) (fun B env hd hdp e1 e2 e3 => ?_) (by decide)
  have ok := bq_ok (P := P) (w := w) (K := K) (mg := mg) (ps := ["thing"]) (us := [u]) (pre := fun _ => True) (B := B) (fun _ _ _ _ => trivial) e1 rfl e2 e3
  have th : ∀ p, QE (bq P w K mg ["thing"] [u] (fun _ => True) env B) (.Name "thing" p) (· = u) := fun p => bq_par ok e1 rfl List.mem_cons_self
  rcases h.kit (K := K) r with ⟨i, t, rfl, rfl⟩ | ⟨rfl, T', Z, nx, ti | ⟨ti, tb⟩⟩
  · exact q_and (a := true) ok (q_isi ok (th _) PySem.W.kitx_int (fun _ _ => trivial) (by decide +kernel : kitB "int" "int" = some true) (fun z => nomatch z) (bq_glob e1 rfl) T.n_isinstance (bq_glob e1 rfl) T.n_int (by decide +kernel) rfl)
      (fun _ => q_not (a := false) (q_isi ok (th _) PySem.W.kitx_int (fun _ _ => trivial) (by decide +kernel : kitB "int" "bool" = some false) (fun z => nomatch z) (bq_glob e1 rfl) T.n_isinstance (bq_glob e1 rfl) T.n_bool (by decide +kernel) rfl) rfl) (fun z => nomatch z)
  · exact q_and (a := false) ok (q_isi ok (th _) Z (fun _ _ => trivial) ti nx (bq_glob e1 rfl) T.n_isinstance (bq_glob e1 rfl) T.n_int (by decide +kernel) rfl) (fun z => nomatch z) (fun _ => rfl)
  · exact q_and (a := true) ok (q_isi ok (th _) Z (fun _ _ => trivial) ti nx (bq_glob e1 rfl) T.n_isinstance (bq_glob e1 rfl) T.n_int (by decide +kernel) rfl)
      (fun _ => q_not (a := true) (q_isi ok (th _) Z (fun _ _ => trivial) tb nx (bq_glob e1 rfl) T.n_isinstance (bq_glob e1 rfl) T.n_bool (by decide +kernel) rfl) rfl) (fun z => nomatch z)
theorem qf_within (T : Txt K mg base) {v : V} {u : Value} {o : Option Int} {n : Int} {tn : Tok} (h : Fw v o) (r : RelV v u) : QF P w K mg 2 T.a_is_within [u, .int n tn] (fun _ => True) (· = .bool (inI o n)) := by
  refine qf_ret T.F_is_within rfl rfl rfl (by decide) T.b_is_within rfl rfl (fun _ _ _ _ => trivial) (fun B env hd hdp e1 e2 e3 => ?_) (by decide)
  have ok := bq_ok (P := P) (w := w) (K := K) (mg := mg) (ps := ["thing", "most"]) (us := [u, .int n tn]) (pre := fun _ => True) (B := B) (fun _ _ _ _ => trivial) e1 rfl e2 e3
  have th : ∀ p, QE (bq P w K mg ["thing", "most"] [u, .int n tn] (fun _ => True) env B) (.Name "thing" p) (· = u) := fun p => bq_par ok e1 rfl List.mem_cons_self
  have mo : ∀ p, QE (bq P w K mg ["thing", "most"] [u, .int n tn] (fun _ => True) env B) (.Name "most" p) (· = .int n tn) := fun p => bq_par ok e1 rfl (List.mem_cons_of_mem _ List.mem_cons_self)
  refine q_and (a := o.isSome) ok (q_call1 ok hd hdp (qf_whole T h r) (fun _ _ => trivial) (bq_glob e1 rfl) T.m_is_whole T.F_is_whole.kp (th _)) (fun e => ?_) (fun e => ?_)
  · obtain ⟨i, rfl⟩ := Option.isSome_iff_exists.mp e
    cases h
    obtain ⟨t, rfl⟩ := (show ∃ t, u = Value.int i t from r)
    have im : ∀ {e : Expr} {j : Int} {t : Tok}, QE (bq P w K mg ["thing", "most"] [.int i t, .int n tn] (fun _ => True) env B) e (· = .int j t) → True := fun _ => trivial
    refine q_le2 (i := 1) (j := i) (k := n) ok (q_int fun t => ⟨t, rfl⟩) (fun E s g => wpAny_mono (th _ E s g) (fun y s' z => ⟨⟨t, z.1⟩, z.2⟩) fun _ _ z => z) (fun E s g => wpAny_mono (mo _ E s g) (fun y s' z => ⟨⟨tn, z.1⟩, z.2⟩) fun _ _ z => z) rfl
  · cases o with
    | none => rfl
    | some _ => cases e
/-- what the element is_within(seat, seats) says -/
def CnW (i : Nat) : L2.St → Hp → V → (Value → Prop) → Prop := fun σ _ w R => ∃ n o, σ[i]? = some (some (.int n)) ∧ Fw w o ∧ ∀ y, y = .bool (inI o n) → R y
theorem el_within {X : Cx} (T : Txt X.K X.mg X.base) (hr : Room 2 X.A) (gl : X.env.globals = mainGlobals) {scope : Scope} {tab : Addr} {i : Nat} {p1 p2 p3 pos : Pos} (hk : scope.kind = .function) (k1 : scope.names.lookup ("seat" : Str) = some .local) (k2 : scope.names.lookup ("seats" : Str) = some .free) (k3 : scope.names.lookup ("is_within" : Str) = some .globalImplicit)
    (hN : X.N[i]? = some "seats") (hv : X.env.scope.names.lookup ("seats" : Str) = some .cell) (hc : ∀ cells : List (Str × Addr), (cloFrom cells scope.names []).lookup ("seats" : Str) = some ((cells.lookup ("seats" : Str)).getD 0)) :
    EltL X scope "seat" tab (.Call (.Name "is_within" p1) [.Name "seat" p2, .Name "seats" p3] [] pos) (CnW i) := by
  intro pins σ H s I ⟨ps, hT⟩ w R hC u ru C code A h1 h2 h3
  obtain ⟨n, o, hn, hf, hR⟩ := hC
  obtain ⟨m, hm, hl⟩ := I.loc
  obtain ⟨u', ru', lk⟩ := hl i _ _ hN hn (.inr (.inl hv))
  obtain ⟨tn, rfl⟩ := (show ∃ t, u' = Value.int n t from ru')
  rcases lk with ⟨z, _⟩ | ⟨_, c, hcl, isc⟩
  · have z2 : X.env.kindOf ("seats" : Str) = some .cell := hv
    rw [z2] at z
    cases z
  have ok := qxOf_ok (X := X) gl hk (x := "seat") (P := tab) (h1 := s.heap) (C := C) (code := code) (v := u) (A := A)
  have cT : c ≠ tab := fun z => by
    have := I.freeC _ c hcl
    rw [z, hT] at this
    cases this
  have seat : QE (qxOf X scope "seat" tab s.heap C code u A) (.Name "seat" p2) (· = u) := q_loc ok k1 (fun h g => g.2.2) rfl
  have seats : QE (qxOf X scope "seat" tab s.heap C code u A) (.Name "seats" p3) (· = .int n tn) := q_free ok (c := c) k2 (by
    show (cloFrom X.env.cells scope.names []).lookup ("seats" : Str) = some c
    rw [hc, hcl]; rfl) (fun h g => by
      obtain ⟨ob, ho, hd⟩ := isc
      exact ⟨ob, g.2.1 c ob cT ho, hd⟩) rfl
  have dp := hr.dp
  have cl : QE (qxOf X scope "seat" tab s.heap C code u A) (.Call (.Name "is_within" p1) [.Name "seat" p2, .Name "seats" p3] [] pos) (· = .bool (inI o n)) :=
    q_call2 ok h1 (by show A.depth + 2 < _; omega) (qf_within T hf ru) (fun _ _ => trivial) k3 T.m_is_within T.F_is_within.kp seat seats
  exact fun E s g => wpAny_mono (cl E s g) (fun y s' z => ⟨hR y z.1, z.2⟩) fun _ _ z => z
end
end Ap


namespace Ap
open PySem L2 PySem.Spec PyProof.Rows
/-- a net's ties are passed -/
abbrev Nt (H : Hp) (v : V) (ts : List Tie) : Prop := Da (fun _ => True) H v (netD ts)
theorem Nt.kp {H H' : Hp} {v : V} {ts : List Tie} (h : Nt H v ts) (k : Kp [] H H') : Nt H' v ts := h.keep k (fun _ _ => nin0) fun _ h => h
def tkey (t : Tie) : List Int := [min t.1 t.2, max t.1 t.2]
theorem tkey_apart {s t : Tie} (h : Apart s t) : tkey s ≠ tkey t := fun e => by
  unfold tkey at e
  simp only [List.cons.injEq, and_true] at e
  obtain ⟨h1, h2⟩ := h
  omega
def spSeats : Sp := fun vs H Q _ => ∃ n : Nat, vs = [.int n] ∧ 3 ≤ n ∧ n ≤ 40 ∧ Q .non H
def spTies (tb : List Addr) : Sp := fun vs H Q _ => ∃ (n : Nat) (ts : List Tie) (v : V), vs = [.int n, v] ∧ NetS (up n) ts ∧ ts.length ≤ 900 ∧ Nt H v ts ∧ Tabs tb H ∧ ∀ H', Kp [] H H' → Q .non H'
section
variable {P : Program} {w : World} {K : PySem.W.Frag} {mg : Str → Option Value} {base : Heap}
theorem ok_check_seats (T : Txt K mg base) : FnG P w K mg base CX0 3 T.a_check_seats T.fd_check_seats ["seats"] spSeats := by
  refine fnG_of0 T.F_check_seats sc_check_seats (fun vs H Q E h => ?_) (fun cdv A outer s H vs Q E hcd hr gd h => ?_)
  · obtain ⟨n, rfl, _⟩ := h
    rfl
  · obtain ⟨n, rfl, n1, n2, q⟩ := h
    refine ⟨_, (pss_one (ps_if (PW.pt (pw_or (pt_not (pt_val (pe_callG (ok_is_within T) (hr.mono (by decide)) gd rfl T.m_is_within T.F_is_within.kp T.b_is_within .nil pass0 (pa_cons (pv 0) (pa_cons (pe_glob (v := .int 40) rfl T.v_MOST_SEATS ⟨_, rfl⟩) pa_nil))))) (pw_or1 (pt_cmpR op_lt (pv 0) (pe_glob (v := .int 3) rfl T.v_FEWEST_SEATS ⟨_, rfl⟩) (nomark _)))))
      (pss_one ps_never)
      pss_nil)), ?_⟩
    rw [show start ["seats"] [.int n] = [some (.int n)] from rfl]
    walk_at "go"
    refine ⟨_, _, _, rfl, .int _, ?_⟩
    walk_at "go"
    refine g_kX (by simp [inI]; omega) ?_
    walk_at "go"
    refine g_kDX (by omega) ?_
    walk_at "go"
    exact q
theorem ok_check_ties (T : Txt K mg base) : FnG P w K mg base CX0 4 T.a_check_ties T.fd_check_ties ["seats", "ties"] (spTies T.tbs) := by
  refine fnG_of0 T.F_check_ties sc_check_ties (fun vs H Q E h => ?_) (fun cdv A outer s H vs Q E hcd hr gd h => ?_)
  · obtain ⟨n, ts, p, rfl, _⟩ := h
    rfl
  · obtain ⟨n, ts, v, rfl, hS, few, hN, hT, q⟩ := h
    obtain ⟨p, xs, rfl, -, hp, hD⟩ := hN.list_inv
    refine ⟨_, (pss_cons (ps_if (pt_not (pt_val (pe_callB call_isi (by rfl) T.n_isinstance (by decide +kernel) (pa_cons (pv 1) (pa_cons (pe_bltn (v := .ty "list") (u := .type "list") rfl T.n_list (by decide +kernel) rfl) pa_nil)))))
      (pss_one ps_never)
      pss_nil)
    (pss_cons (ps_set (i := 2) sc_check_ties.nd rfl (Or.inl rfl) (pe_callTy0 Sx.cr_newI (by rfl) T.n_set (by decide +kernel)))
    (pss_one (ps_for PassesOwn.never rfl (pi_enum (by rfl) T.n_enumerate (pa_cons (pv 1) pa_nil)) (pg_tup rfl (pgs_cons (pg_name (i := 3) sc_check_ties.nd rfl (Or.inl rfl)) (pgs_cons (pg_name (i := 4) sc_check_ties.nd rfl (Or.inl rfl)) pgs_nil)))
      (pss_cons (ps_if (PW.pt (pw_or (pt_not (pt_val (pe_callB call_isi (by rfl) T.n_isinstance (by decide +kernel) (pa_cons (pv 4) (pa_cons (pe_bltn (v := .ty "list") (u := .type "list") rfl T.n_list (by decide +kernel) rfl) pa_nil))))) (pw_or (pt_cmpR op_ne (pe_callB cr_len (by rfl) T.n_len (by decide +kernel) (pa_cons (pv 4) pa_nil)) pe_int (nomark _)) (pw_or1 (pt_not (pt_val (pe_allL (P := T.p_check_ties) hr rfl T.n_all T.TB_check_ties (hcd.symm.trans T.k_check_ties) (gs_of rfl rfl (by decide) rfl rfl (by decide)) (pv 4) (el_within T (hr.mono (by decide)) rfl rfl rfl rfl rfl (i := 0) rfl rfl (fun _ => rfl)) (fun _ => rfl))))))))
        (pss_one ps_never)
        pss_nil)
      (pss_cons (ps_if (PW.pt (pw_or (pt_cmpR op_eq (pe_ix ix_list (pv 4) pe_int (fun _ _ => rfl)) (pe_ix ix_list (pv 4) pe_int (fun _ _ => rfl)) (nomark _)) (pw_or1 (pt_cmpR (Sx.op_inI hr.u64) (pe_tup (pa_cons (pe_callB (cr_min rfl) (by rfl) T.n_min (by decide +kernel) (pa_cons (pv 4) pa_nil)) (pa_cons (pe_callB (cr_max rfl) (by rfl) T.n_max (by decide +kernel) (pa_cons (pv 4) pa_nil)) pa_nil))) (pv 2) (by rfl)))))
        (pss_one ps_never)
        pss_nil)
      (pss_one (ps_expr (Sx.pe_addI hr.u64 (pv 2) (pa_cons (pe_tup (pa_cons (pe_callB (cr_min rfl) (by rfl) T.n_min (by decide +kernel) (pa_cons (pv 4) pa_nil)) (pa_cons (pe_callB (cr_max rfl) (by rfl) T.n_max (by decide +kernel) (pa_cons (pv 4) pa_nil)) pa_nil))) pa_nil)))))))))), ?_⟩
    rw [show start ["seats", "ties", "seen", "index", "tie"] [.int n, .ref p] = [some (.int n), some (.ref p), none, none, none] from rfl]
    walk_at "go"
    refine g_isi (T' := "list") (.base (.lst hp)) (by decide +kernel : kitB "list" "list" = some true) ?_
    walk_at "go"
    refine ⟨rfl, fun S hSn => ?_⟩
    walk_at "go"
    have hS0 : H S = none := hSn
    refine g_it (walk_enum (xs := xs)) (fun i σ' H' => ∃ x3 x4 L, σ' = [some (.int n), some (.ref p), some (.ref S), x3, x4] ∧ Kp [] H H' ∧ H' S = some (Sx.SetI P w S L) ∧ Sx.Tups K H' L ∧ L.length ≤ i ∧ ∀ e ∈ L, ∃ t ∈ ts.take i, e.2 = tkey t)
      ⟨_, _, [], rfl, (Kp.refl _ _).put hS0, upd_same, fun _ z => (nomatch z), Nat.le_refl _, fun _ z => (nomatch z)⟩ (fun i σ' H' _ h => ?_) ?_ ?_
    · obtain ⟨_, _, _, _, hK, _⟩ := h
      exact SqL.of (hK.lst nin0 hp)
    · rintro i x σ' H' H'' hi ⟨x3, x4, L, rfl, hK, hSet, hTu, hLn, hLm⟩ ⟨Tp, xi, y, rfl, hTp, rfl, hx1, hx2⟩
      cases hx1
      have hp' : H' p = some (.lst xs) := hK.lst nin0 hp
      obtain ⟨d, hd, hy⟩ := hD.getV hx2
      rw [List.getElem?_map] at hd
      obtain ⟨t, ht, rfl⟩ := Option.map_eq_some_iff.mp hd
      have hy := hy.keep (hK.put (hK.free hTp) : Kp [] H (upd H' Tp (.tup [.int (i : Nat), y]))) (fun _ _ => nin0) (fun _ h => h)
      obtain ⟨q1, rfl, -, hq⟩ := Da.ints_inv (ns := [t.1, t.2]) hy
      have tin := List.mem_of_getElem? ht
      obtain ⟨m1, m2, ne⟩ := hS.mem t tin
      have b1 := up_mem.mp m1
      have b2 := up_mem.mp m2
      walk_at "go"
      refine g_isi (T' := "list") (.base (.lst hq)) (by decide +kernel : kitB "list" "list" = some true) ?_
      walk_at "go"
      refine g_kNX rfl ?_
      walk_at "go"
      have k1 : Kp [] H (upd H' Tp (.tup [.int (i : Nat), .ref q1])) := hK.put (hK.free hTp)
      have ST : S ≠ Tp := ne_of_none hSet hTp
      refine ⟨q1, [.int t.1, .int t.2], fun _ => true, rfl, SqL.of hq, fun w' hw' => ?_, k1.tabs hT T.p_check_ties List.mem_cons_self, fun H2 hT2 => ?_⟩
      · have one : ∀ j : Int, 1 ≤ j → j ≤ n → CnW 0 [some (.int n), some (.ref p), some (.ref S), some (.int (i : Nat)), some (.ref q1)] (upd H' Tp (.tup [.int (i : Nat), .ref q1])) (.int j) (· = .bool true) := fun j j1 j2 =>
          ⟨n, some j, rfl, .int j, fun y e => by
            have : inI (some j) n = true := by simp [inI, j1, j2]
            rw [this] at e
            exact e⟩
        rcases List.mem_cons.mp hw' with rfl | hw'
        · exact one _ b1.1 b1.2
        · obtain rfl := List.mem_singleton.mp hw'
          exact one _ b2.1 b2.2
      have k2 : Kp [] (upd H' Tp (.tup [.int (i : Nat), .ref q1])) H2 := Kp.tabbed (k1.tabs hT T.p_check_ties List.mem_cons_self) hT2
      have hS2 : H2 S = some (Sx.SetI P w S L) := k2.look nin0 (by rw [upd_ne ST]; exact hSet) (ntb rfl)
      have hq2 : H2 q1 = some (.lst [.int t.1, .int t.2]) := k2.lst nin0 hq
      have kk : Kp [] H' H2 := ((Kp.refl _ _).put hTp).trans k2
      have hTu2 : Sx.Tups K H2 L := Sx.Tups.kp hTu kk
      walk_at "go"
      refine g_kX rfl ?_
      walk_at "go"
      refine g_kDX ne ?_
      walk_at "go"
      refine ⟨q1, [t.1, t.2], rfl, SqL.of hq2, Nat.succ_pos _, fun a ha1 ha2 => ?_⟩
      obtain rfl : a = min t.1 t.2 := by
        have := ha2 t.1 (by simp)
        have := ha2 t.2 (by simp)
        simp at ha1
        omega
      walk_at "go"
      refine ⟨q1, [t.1, t.2], rfl, SqL.of hq2, Nat.succ_pos _, fun b hb1 hb2 => ?_⟩
      obtain rfl : b = max t.1 t.2 := by
        have := hb2 t.1 (by simp)
        have := hb2 t.2 (by simp)
        simp at hb1
        omega
      walk_at "go"
      rename_i W hW
      have nm : tkey t ∉ L.map (·.2) := fun z => by
        obtain ⟨e, he, ee⟩ := List.mem_map.mp z
        obtain ⟨t0, ht0, et⟩ := hLm e he
        obtain ⟨j, hj, rfl⟩ := List.getElem_of_mem ht0
        rw [List.length_take] at hj
        rw [List.getElem_take] at et
        have il := (List.getElem?_eq_some_iff.mp ht)
        obtain ⟨il, et2⟩ := il
        have ap := List.pairwise_iff_getElem.mp hS.ap j i (by omega) il (by omega)
        rw [et2] at ap
        exact tkey_apart ap (et.symm.trans ee)
      have kW : Kp [] H' (upd H2 W (.tup [.int (min t.1 t.2), .int (max t.1 t.2)])) := kk.put (kk.free hW)
      refine ⟨W, S, tkey t, L, rfl, rfl, SqT.of upd_same, by walk_at "look", hTu.kp kW, ?_⟩
      walk_at "go"
      refine g_kDX nm ?_
      walk_at "go"
      refine ⟨q1, [t.1, t.2], rfl, SqL.of (by walk_at "look"), Nat.succ_pos _, fun a ha1 ha2 => ?_⟩
      obtain rfl : a = min t.1 t.2 := by
        have := ha2 t.1 (by simp)
        have := ha2 t.2 (by simp)
        simp at ha1
        omega
      walk_at "go"
      refine ⟨q1, [t.1, t.2], rfl, SqL.of (by walk_at "look"), Nat.succ_pos _, fun b hb1 hb2 => ?_⟩
      obtain rfl : b = max t.1 t.2 := by
        have := hb2 t.1 (by simp)
        have := hb2 t.2 (by simp)
        simp at hb1
        omega
      walk_at "go"
      rename_i W2 hW2
      have kW2 := kW.put (o := .tup [.int (min t.1 t.2), .int (max t.1 t.2)]) (kW.free hW2)
      have S2 : (upd (upd H2 W (.tup [.int (min t.1 t.2), .int (max t.1 t.2)])) W2 (.tup [.int (min t.1 t.2), .int (max t.1 t.2)])) S = some (Sx.SetI P w S L) := by walk_at "look"
      have lenx : xs.length = ts.length := by rw [hD.length, List.length_map]
      refine ⟨W2, S, tkey t, L, rfl, rfl, SqT.of upd_same, S2, hTu.kp kW2, by omega, fun L' _ hL' => ?_⟩
      have pm := hL' nm
      walk_at "go"
      have SW2 : W2 ≠ S := fun z => by rw [z, upd_ne (ne_of_none hS2 hW)] at hW2; rw [hS2] at hW2; cases hW2
      refine ⟨_, _, L', rfl, (hK.trans kW2).put hS0, upd_same, fun e he => ?_, by rw [pm.length_eq, List.length_cons]; omega, fun e he => ?_⟩
      · have up1 : ∀ b, b ≠ S → ∀ o, (upd (upd H2 W (.tup [.int (min t.1 t.2), .int (max t.1 t.2)])) W2 (.tup [.int (min t.1 t.2), .int (max t.1 t.2)])) b = some o → (upd (upd (upd H2 W (.tup [.int (min t.1 t.2), .int (max t.1 t.2)])) W2 (.tup [.int (min t.1 t.2), .int (max t.1 t.2)])) S (Sx.SetI P w S L')) b = some o := fun b hb o e => by rw [upd_ne hb]; exact e
        rcases List.mem_cons.mp (pm.mem_iff.mp he) with rfl | he
        · exact SqT.of (up1 W2 SW2 _ upd_same)
        · rcases hTu.kp kW2 e he with (z | ⟨o, z⟩) | z
          · exact .inl (.inl (up1 _ (fun c => by rw [c, S2] at z; cases z) _ z))
          · exact .inl (.inr ⟨o, up1 _ (fun c => by rw [c, S2] at z; cases z) _ z⟩)
          · exact .inr z
      · rw [List.take_add_one, ht]
        rcases List.mem_cons.mp (pm.mem_iff.mp he) with rfl | he
        · exact ⟨t, List.mem_append_right _ (List.mem_singleton.mpr rfl), rfl⟩
        · obtain ⟨t0, h0, e0⟩ := hLm e he
          exact ⟨t0, List.mem_append_left _ h0, e0⟩
    · rintro σ' H' ⟨_, _, _, rfl, hK, _⟩
      walk_at "go"
      exact q _ hK
end
end Ap
namespace Ap
open PySem L2 PySem.Spec PyProof.Rows
theorem nodup_le {α : Type} [DecidableEq α] : ∀ {l D : List α}, l.Nodup → (∀ x ∈ l, x ∈ D) → l.length ≤ D.length
  | [], _, _, _ => Nat.zero_le _
  | x :: l, D, n, h => by
    obtain ⟨n1, n2⟩ := List.nodup_cons.mp n
    have hx := h x List.mem_cons_self
    have := nodup_le (D := D.erase x) n2 fun y hy => (List.mem_erase_of_ne (show y ≠ x from fun z => n1 (z ▸ hy))).mpr (h y (List.mem_cons_of_mem _ hy))
    rw [List.length_erase_of_mem hx] at this
    have := List.length_pos_of_mem hx
    simp only [List.length_cons]
    omega
/-- all pairs x < y of 1 .. 40 -/
def allPairs : List (List Int) := (up 40).flatMap fun x => ((up 40).filter (x < ·)).map fun y => [x, y]
theorem NetS.few {n : Nat} {ts : List Tie} (h : NetS (up n) ts) (hn : n ≤ 40) : ts.length ≤ 900 := by
  have nd : (ts.map tkey).Nodup := List.pairwise_map.mpr (h.ap.imp tkey_apart)
  have sub : ∀ k ∈ ts.map tkey, k ∈ allPairs := fun k hk => by
    obtain ⟨t, ht, rfl⟩ := List.mem_map.mp hk
    obtain ⟨m1, m2, ne⟩ := h.mem t ht
    have b1 := up_mem.mp m1
    have b2 := up_mem.mp m2
    exact List.mem_flatMap.mpr ⟨min t.1 t.2, up_mem.mpr (by omega), List.mem_map.mpr ⟨max t.1 t.2, List.mem_filter.mpr ⟨up_mem.mpr (by omega), decide_eq_true (by omega)⟩, rfl⟩⟩
  have le := nodup_le nd sub
  have c : allPairs.length = 780 := by decide +kernel
  rw [List.length_map, c] at le
  omega
def spNet2 (tb : List Addr) : Sp := fun vs H Q _ => ∃ (n : Nat) (ts : List Tie) (v : V), vs = [.int n, v] ∧ 3 ≤ n ∧ n ≤ 40 ∧ NetS (up n) ts ∧ Nt H v ts ∧ Tabs tb H ∧ ∀ H', Kp [] H H' → Q .non H'
section
variable {P : Program} {w : World} {K : PySem.W.Frag} {mg : Str → Option Value} {base : Heap}
theorem ok_check_net (T : Txt K mg base) : FnG P w K mg base CX0 5 T.a_check_net T.fd_check_net ["seats", "ties"] (spNet2 T.tbs) := by
  refine fnG_of0 T.F_check_net sc_check_net (fun vs H Q E h => ?_) (fun cdv A outer s H vs Q E hcd hr gd h => ?_)
  · obtain ⟨n, ts, v, rfl, _⟩ := h
    rfl
  · obtain ⟨n, ts, v, rfl, n1, n2, hS, hN, hT, q⟩ := h
    refine ⟨_, (pss_cons (ps_expr (pe_callG (ok_check_seats T) (hr.mono (by decide)) gd rfl T.m_check_seats T.F_check_seats.kp T.b_check_seats .nil pass0 (pa_cons (pv 0) pa_nil)))
    (pss_one (ps_expr (pe_callG (ok_check_ties T) (hr.mono (by decide)) gd rfl T.m_check_ties T.F_check_ties.kp T.b_check_ties .nil pass0 (pa_cons (pv 0) (pa_cons (pv 1) pa_nil)))))), ?_⟩
    rw [show start ["seats", "ties"] [.int n, v] = [some (.int n), some (v)] from rfl]
    walk_at "go"
    refine ⟨n, rfl, n1, n2, ?_⟩
    walk_at "go"
    refine ⟨n, ts, v, rfl, hS, hS.few n2, hN, hT, fun H' hK => ?_⟩
    walk_at "go"
    exact q H' hK
end
end Ap


namespace Ap
open PySem L2 PySem.Spec PyProof.Rows
/-- the seats tied to k, in the order of the ties -/
def nearL (ts : List Tie) (k : Int) : List Int := ts.filterMap fun t => if t.1 = k then some t.2 else if t.2 = k then some t.1 else none
theorem nearL_mem {ts : List Tie} {k y : Int} (ne : ∀ t ∈ ts, t.1 ≠ t.2) : y ∈ nearL ts k ↔ (k, y) ∈ ts ∨ (y, k) ∈ ts := by
  unfold nearL
  rw [List.mem_filterMap]
  constructor
  · rintro ⟨⟨a, b⟩, ht, e⟩
    simp only at e
    split at e
    · rename_i h
      cases e
      subst h
      exact .inl ht
    · split at e
      · rename_i h
        cases e
        subst h
        exact .inr ht
      · cases e
  · rintro (h | h)
    · exact ⟨_, h, by simp⟩
    · refine ⟨_, h, ?_⟩
      have := ne _ h
      simp [show ¬ y = k from this]
theorem nearL_snoc {ts : List Tie} {t : Tie} {k : Int} : nearL (ts ++ [t]) k = nearL ts k ++ (if t.1 = k then [t.2] else if t.2 = k then [t.1] else []) := by
  unfold nearL
  rw [List.filterMap_append]
  congr 1
  simp only [List.filterMap_cons, List.filterMap_nil]
  split
  · rename_i h
    split at h
    · cases h
    · rename_i h1
      split at h
      · cases h
      · rename_i h2
        rw [if_neg h1, if_neg h2]
  · rename_i h
    split at h
    · rename_i h1
      cases h
      rw [if_pos h1]
    · rename_i h1
      split at h
      · rename_i h2
        cases h
        rw [if_neg h1, if_pos h2]
      · cases h
/-- a dict of these seats -/
def nkv (ys : List Int) : List (Key × V) := ys.map fun y => (Sum.inl y, V.bl true)
theorem nkv_val {ys : List Int} {y : Int} : (valV (nkv ys) (Sum.inl y)).isSome = decide (y ∈ ys) := by
  rw [← valV_any, Bool.eq_iff_iff, List.any_eq_true, decide_eq_true_eq]
  constructor
  · rintro ⟨⟨k, v⟩, hm, e⟩
    obtain ⟨z, hz, e2⟩ := List.mem_map.mp hm
    cases e2
    simp at e
    exact e ▸ hz
  · intro h
    exact ⟨_, List.mem_map.mpr ⟨y, h, rfl⟩, by simp⟩
theorem nkv_put {ys : List Int} {y : Int} (h : y ∉ ys) : putK (nkv ys) (Sum.inl y) (V.bl true) = nkv (ys ++ [y]) := by
  rw [putK_new]
  · unfold nkv
    rw [List.map_append]; rfl
  · have := nkv_val (ys := ys) (y := y)
    rw [decide_eq_false h] at this
    cases e : valV (nkv ys) (Sum.inl y) with
    | none => rfl
    | some _ => rw [e] at this; cases this
/-- the net's near stands at v: a new list of n + 1 new dicts -/
structure NearAt (H : Hp) (np : Addr) (ds : List Addr) (n : Nat) (ts : List Tie) (H' : Hp) : Prop where
  new : H np = none
  lst : H' np = some (.lst (ds.map V.ref))
  len : ds.length = n + 1
  nd : ds.Nodup
  news : ∀ d ∈ ds, H d = none ∧ d ≠ np
  dct : ∀ (k : Nat) d, ds[k]? = some d → H' d = some (.dK (nkv (nearL ts k)))
def spNear : Sp := fun vs H Q _ => ∃ (n : Nat) (ts : List Tie) (v : V), vs = [.int n, v] ∧ n ≤ 40 ∧ NetS (up n) ts ∧ Nt H v ts ∧ ∀ np ds H', Kp [] H H' → NearAt H np ds n ts H' → Q (.ref np) H'
section
variable {P : Program} {w : World} {K : PySem.W.Frag} {mg : Str → Option Value} {base : Heap}
theorem ok_near_in (T : Txt K mg base) : FnG P w K mg base CX0 1 T.a_near_in T.fd_near_in ["seats", "ties"] spNear := by
  refine fnG_of0 T.F_near_in sc_near_in (fun vs H Q E h => ?_) (fun cdv A outer s H vs Q E hcd hr gd h => ?_)
  · obtain ⟨n, ts, v, rfl, _⟩ := h
    rfl
  · obtain ⟨n, ts, v, rfl, n2, hS, hN, q⟩ := h
    obtain ⟨p, xs, rfl, -, hp, hA⟩ := hN.list_inv
    refine ⟨_, (pss_cons (ps_setLc (i := 2) (own := [("seat", 5)]) (g := gName 5) (tt := tYes) rfl sc_near_in.nd rfl rfl (sw_true rfl rfl rfl (by decide +kernel)) (pi_range1 (by rfl) T.n_range (pa_cons (pe_op op_add (pv 0) pe_int) pa_nil)) (blkOk_by (N := ["seats", "ties", "near", "one", "two", "seat"]) (sc := defScope s_near_in) (by decide +kernel)) (fun _ _ _ _ _ => (pg_name (i := 5) sc_near_in.nd rfl (Or.inl rfl))) (fun _ _ _ _ _ => pts_nil) (fun _ _ _ _ _ => pe_dnewK))
    (pss_cons (ps_for PassesOwn.never rfl (pi_list (pv 1)) (pg_lst rfl (pgs_cons (pg_name (i := 3) sc_near_in.nd rfl (Or.inl rfl)) (pgs_cons (pg_name (i := 4) sc_near_in.nd rfl (Or.inl rfl)) pgs_nil)))
      (pss_cons (ps_dput hr.u1 (pe_ix ix_list (pv 2) (pv 3) (fun _ _ => rfl)) (pv 4) pe_bl rfl)
      (pss_one (ps_dput hr.u1 (pe_ix ix_list (pv 2) (pv 4) (fun _ _ => rfl)) (pv 3) pe_bl rfl))))
    (pss_one (ps_ret (pv 2))))), ?_⟩
    rw [show start ["seats", "ties", "near", "one", "two", "seat"] [.int n, .ref p] = [some (.int n), some (.ref p), none, none, none, none] from rfl]
    walk_at "go"
    rw [show ((n : Int) + 1).toNat = n + 1 by omega]
    refine g_lc walk_range (w0 := [some (.int n), some (.ref p), none, none, none, none]) rfl fun D hD => ⟨fun i H' => ∃ ds : List Addr, H' D = some (.lst (ds.map V.ref)) ∧ ds.length = i ∧ ds.Nodup ∧ (∀ d ∈ ds, H d = none ∧ d ≠ D ∧ H' d = some (.dK [])) ∧ Kp [] H H', ⟨[], upd_same, rfl, List.nodup_nil, fun _ z => (nomatch z), (Kp.refl _ _).put hD⟩, fun _ _ _ _ => trivial, ?_, ?_⟩
    · rintro i x H1 H' hi ⟨ds, hl, hn, nd, hds, hK⟩ ⟨rfl, rfl⟩
      walk_at "go"
      refine g_kLg rfl ?_
      walk_at "go"
      refine g_dnew fun d hd => ?_
      refine g_kLe (acc := ds.map V.ref) (by walk_at "look") (triv_szl (by rw [List.length_map]; omega)) ⟨ds ++ [d], ?_, ?_, ?_, ?_, ?_⟩
      · rw [List.map_append]; exact upd_same
      · rw [List.length_append, hn]; rfl
      · refine List.nodup_append.mpr ⟨nd, List.nodup_cons.mpr ⟨(nomatch ·), List.nodup_nil⟩, fun a ha b hb z => ?_⟩
        obtain rfl := List.mem_singleton.mp hb
        have := (hds a ha).2.2
        rw [z, hd] at this
        cases this
      · have dD : d ≠ D := fun z => by rw [z, hl] at hd; cases hd
        intro e he
        rcases List.mem_append.mp he with he | he
        · obtain ⟨a, b, c⟩ := hds e he
          exact ⟨a, b, by rw [upd_ne b, upd_ne (ne_of_none c hd)]; exact c⟩
        · obtain rfl := List.mem_singleton.mp he
          exact ⟨hK.free hd, dD, by rw [upd_ne dD]; exact upd_same⟩
      · exact (hK.put (hK.free hd)).put hD
    rintro H1 ⟨ds, hl, hn, nd, hds, hK⟩
    walk_at "go"
    have H0' : ∀ k d, ds[k]? = some d → H1 d = some (.dK (nkv (nearL (ts.take 0) (k : Nat)))) := fun k d e => (hds d (List.mem_of_getElem? e)).2.2
    have news : ∀ d ∈ ds, H d = none ∧ d ≠ D := fun d hd => ⟨(hds d hd).1, (hds d hd).2.1⟩
    have lenx : xs.length = ts.length := by rw [hA.length, List.length_map]
    refine g_forL (xs := xs) (fun i σ' H' => ∃ x3 x4, σ' = [some (.int n), some (.ref p), some (.ref D), x3, x4, none] ∧ Kp [] H H' ∧ H' D = some (.lst (ds.map V.ref)) ∧ ∀ k d, ds[k]? = some d → H' d = some (.dK (nkv (nearL (ts.take i) (k : Nat)))))
      ⟨_, _, rfl, hK, hl, H0'⟩ (fun i σ' H' _ h => ?_) ?_ ?_
    · obtain ⟨_, _, _, hK, _⟩ := h
      exact SqL.of (hK.lst nin0 hp)
    · clear hl hds hK H0' H1
      rintro i x σ' H' hi ⟨x3, x4, rfl, hK, hl, hd⟩
      obtain ⟨dd, hdd, hx⟩ := hA.getV hi
      rw [List.getElem?_map] at hdd
      obtain ⟨t, ht, rfl⟩ := Option.map_eq_some_iff.mp hdd
      have hx := hx.keep hK (fun _ _ => nin0) (fun _ h => h)
      obtain ⟨q1, rfl, -, hq⟩ := Da.ints_inv (ns := [t.1, t.2]) hx
      have hq : H' q1 = some (.lst [.int t.1, .int t.2]) := hq
      have tin := List.mem_of_getElem? ht
      obtain ⟨m1, m2, ne⟩ := hS.mem t tin
      have b1 := up_mem.mp m1
      have b2 := up_mem.mp m2
      obtain ⟨a, ea⟩ : ∃ a : Nat, t.1 = a := ⟨t.1.toNat, by omega⟩
      obtain ⟨b, eb⟩ : ∃ b : Nat, t.2 = b := ⟨t.2.toNat, by omega⟩
      have ha : ds[a]? = some ds[a] := List.getElem?_eq_getElem (by omega)
      have hb : ds[b]? = some ds[b] := List.getElem?_eq_getElem (by omega)
      generalize ds[a] = d1 at ha
      generalize ds[b] = d2 at hb
      have at1 : atI (ds.map V.ref) t.1 = some (.ref d1) := atI_of ea (by rw [List.getElem?_map, ha]; rfl)
      have at2 : atI (ds.map V.ref) t.2 = some (.ref d2) := atI_of eb (by rw [List.getElem?_map, hb]; rfl)
      have same : ∀ {k l : Nat} {d : Addr}, ds[k]? = some d → ds[l]? = some d → k = l := fun {k l d} u v => by
        obtain ⟨h0, f0⟩ := List.getElem?_eq_some_iff.mp u
        obtain ⟨h1, f1⟩ := List.getElem?_eq_some_iff.mp v
        exact (List.getElem_inj nd).mp (f0.trans f1.symm)
      have d12 : d1 ≠ d2 := fun z => by
        have := same ha (z ▸ hb)
        omega
      have lenN : ∀ k, (nkv (nearL (ts.take i) k)).length < sizeLine := fun k => triv_szl (by
        have h1 : (nearL (ts.take i) k).length ≤ (ts.take i).length := List.length_filterMap_le _ _
        have h2 : (ts.take i).length ≤ ts.length := by rw [List.length_take]; omega
        have h3 := hS.few n2
        unfold nkv
        rw [List.length_map]
        omega)
      have apt : ∀ s ∈ ts.take i, Apart s t := fun s hs => by
        obtain ⟨j, hj, rfl⟩ := List.getElem_of_mem hs
        rw [List.length_take] at hj
        rw [List.getElem_take]
        obtain ⟨il, et2⟩ := List.getElem?_eq_some_iff.mp ht
        have ap := List.pairwise_iff_getElem.mp hS.ap j i (by omega) il (by omega)
        rwa [et2] at ap
      have nei : ∀ s ∈ ts.take i, s.1 ≠ s.2 := fun s hs => (hS.mem s (List.mem_of_mem_take hs)).2.2
      have n1 : t.2 ∉ nearL (ts.take i) a := fun z => by
        rcases (nearL_mem nei).mp z with z | z
        · exact (apt _ z).1 ⟨ea.symm, rfl⟩
        · exact (apt _ z).2 ⟨rfl, ea.symm⟩
      have n2' : t.1 ∉ nearL (ts.take i) b := fun z => by
        rcases (nearL_mem nei).mp z with z | z
        · exact (apt _ z).2 ⟨eb.symm, rfl⟩
        · exact (apt _ z).1 ⟨rfl, eb.symm⟩
      walk_at "go"
      refine g_put (k := .inl t.2) (hd a d1 ha) rfl (lenN _) ?_
      rw [nkv_put n1]
      have d1D : D ≠ d1 := Ne.symm (news d1 (List.mem_of_getElem? ha)).2
      have d2D : D ≠ d2 := Ne.symm (news d2 (List.mem_of_getElem? hb)).2
      walk_at "go"
      refine g_put (k := .inl t.1) (kvs := nkv (nearL (ts.take i) b)) (by rw [upd_ne (Ne.symm d12)]; exact hd b d2 hb) rfl (lenN _) ?_
      rw [nkv_put n2']
      walk_at "go"
      refine ⟨_, _, rfl, (hK.put (news d1 (List.mem_of_getElem? ha)).1).put (news d2 (List.mem_of_getElem? hb)).1, by rw [upd_ne d2D, upd_ne d1D]; exact hl, fun k d e => ?_⟩
      rw [List.take_add_one, ht]
      show _ = some (HO.dK (nkv (nearL (ts.take i ++ [t]) k)))
      rw [nearL_snoc]
      by_cases c2 : d = d2
      · subst c2
        obtain rfl := same e hb
        rw [upd_same, if_neg (by omega), if_pos eb]
      · by_cases c1 : d = d1
        · subst c1
          obtain rfl := same e ha
          rw [upd_ne c2, upd_same, if_pos ea]
        · rw [upd_ne c2, upd_ne c1, hd k d e, if_neg (fun z => c1 ?_), if_neg (fun z => c2 ?_), List.append_nil]
          · have : k = b := by omega
            subst this
            rw [hb] at e; cases e; rfl
          · have : k = a := by omega
            subst this
            rw [ha] at e; cases e; rfl
    · rintro σ' H' ⟨x3, x4, rfl, hK, hl, hd⟩
      walk_at "go"
      rw [lenx, List.take_of_length_le (Nat.le_refl _)] at hd
      exact q D ds H' hK ⟨hD, hl, hn, nd, news, hd⟩
end
end Ap


namespace Ap
open PySem L2 PySem.Spec PyProof.Rows
/-- a dict of ints by ints -/
def ikv (f : Int → V) (ks : List Int) : List (Key × V) := ks.map fun k => (Sum.inl k, f k)
theorem ikv_val {f : Int → V} {ks : List Int} {k : Int} : valV (ikv f ks) (Sum.inl k) = if k ∈ ks then some (f k) else none := by
  induction ks with
  | nil => rfl
  | cons a r ih =>
    show valV ((Sum.inl a, f a) :: ikv f r) (Sum.inl k) = _
    by_cases c : a = k
    · subst c
      rw [valV_pos rfl, if_pos List.mem_cons_self]
    · rw [valV_neg (fun z => c (Sum.inl.inj z)), ih]
      by_cases d : k ∈ r
      · rw [if_pos d, if_pos (List.mem_cons_of_mem _ d)]
      · rw [if_neg d, if_neg fun z => (List.mem_cons.mp z).elim (fun z => c z.symm) d]
theorem ikv_put {f : Int → V} {ks : List Int} {k : Int} (h : k ∉ ks) : putK (ikv f ks) (Sum.inl k) (f k) = ikv f (ks ++ [k]) := by
  rw [putK_new _ (by rw [ikv_val, if_neg h])]
  unfold ikv
  rw [List.map_append]; rfl
theorem ikv_len {f : Int → V} {ks : List Int} : (ikv f ks).length = ks.length := List.length_map _
/-- a dict of lists by ints -/
def pkv (tl : List (Int × Addr)) : List (Key × V) := tl.map fun p => (Sum.inl p.1, V.ref p.2)
theorem pkv_some {tl : List (Int × Addr)} {r : Int} {u : V} (h : valV (pkv tl) (Sum.inl r) = some u) : ∃ p ∈ tl, p.1 = r ∧ u = .ref p.2 := by
  unfold valV at h
  obtain ⟨kv, h1, rfl⟩ := Option.map_eq_some_iff.mp h
  have h2 := List.find?_some h1
  obtain ⟨p, hp, rfl⟩ := List.mem_map.mp (List.mem_of_find?_eq_some h1)
  exact ⟨p, hp, Sum.inl.inj (of_decide_eq_true h2), rfl⟩
theorem pkv_none {tl : List (Int × Addr)} {r : Int} (h : valV (pkv tl) (Sum.inl r) = none) : r ∉ tl.map (·.1) := fun z => by
  obtain ⟨p, hp, rfl⟩ := List.mem_map.mp z
  unfold valV at h
  rw [Option.map_eq_none_iff, List.find?_eq_none] at h
  exact h _ (List.mem_map.mpr ⟨p, hp, rfl⟩) (decide_eq_true rfl)
theorem map_inj {α β : Type} {f : α → β} : ∀ {l : List α}, (l.map f).Nodup → ∀ {x y : α}, x ∈ l → y ∈ l → f x = f y → x = y
  | a :: l, h, x, y, hx, hy, e => by
    obtain ⟨h1, h2⟩ := List.nodup_cons.mp h
    rcases List.mem_cons.mp hx with ex | hx'
    · rcases List.mem_cons.mp hy with ey | hy'
      · rw [ex, ey]
      · exact absurd (List.mem_map.mpr ⟨y, hy', by rw [← ex, e]⟩) h1
    · rcases List.mem_cons.mp hy with ey | hy'
      · exact absurd (List.mem_map.mpr ⟨x, hx', by rw [← ey, e]⟩) h1
      · exact map_inj h2 hx' hy' e
theorem NearAt.put {H : Hp} {np : Addr} {ds : List Addr} {n : Nat} {ts : List Tie} {H' : Hp} {p : Addr} {o : HO} (h : NearAt H np ds n ts H') (h1 : p ≠ np) (h2 : p ∉ ds) : NearAt H np ds n ts (upd H' p o) :=
  ⟨h.new, by rw [upd_ne (Ne.symm h1)]; exact h.lst, h.len, h.nd, h.news, fun k d e => by rw [upd_ne (fun z => h2 (by rw [← z]; exact List.mem_of_getElem? e))]; exact h.dct k d e⟩
theorem NearAt.fresh {H : Hp} {np : Addr} {ds : List Addr} {n : Nat} {ts : List Tie} {H' : Hp} {p : Addr} (h : NearAt H np ds n ts H') (hp : H' p = none) : p ≠ np ∧ p ∉ ds :=
  ⟨fun z => (by rw [z, h.lst] at hp; cases hp), fun z => by
    obtain ⟨i, hi, e⟩ := List.getElem_of_mem z
    have := h.dct i p (by rw [List.getElem?_eq_getElem hi, e])
    rw [hp] at this; cases this⟩
/-- what stands while parts are looked for -/
structure PHere (H : Hp) (np : Addr) (ds : List Addr) (n : Nat) (ts : List Tie) (lp : Addr) (ks : List Int) (H' : Hp) : Prop where
  kp : Kp [] H H'
  near : NearAt H np ds n ts H'
  new : H lp = none
  off : lp ≠ np ∧ lp ∉ ds
  lst : H' lp = some (.dK (ikv (fun k => .int (kin ts k)) ks))
theorem PHere.put {H : Hp} {np lp : Addr} {ds : List Addr} {n : Nat} {ts : List Tie} {ks : List Int} {H' : Hp} {p : Addr} {o : HO} (h : PHere H np ds n ts lp ks H') (h0 : H p = none) (h1 : p ≠ np) (h2 : p ∉ ds) (h3 : p ≠ lp) : PHere H np ds n ts lp ks (upd H' p o) :=
  ⟨h.kp.put h0, h.near.put h1 h2, h.new, h.off, by rw [upd_ne (Ne.symm h3)]; exact h.lst⟩
theorem PHere.fresh {H : Hp} {np lp : Addr} {ds : List Addr} {n : Nat} {ts : List Tie} {ks : List Int} {H' : Hp} {p : Addr} (h : PHere H np ds n ts lp ks H') (hp : H' p = none) : H p = none ∧ p ≠ np ∧ p ∉ ds ∧ p ≠ lp :=
  ⟨h.kp.free hp, (h.near.fresh hp).1, (h.near.fresh hp).2, fun z => by rw [z, h.lst] at hp; cases hp⟩
theorem PHere.junk {H : Hp} {np lp : Addr} {ds : List Addr} {n : Nat} {ts : List Tie} {ks : List Int} {H' : Hp} {p : Addr} {o : HO} (h : PHere H np ds n ts lp ks H') (hp : H' p = none) : PHere H np ds n ts lp ks (upd H' p o) :=
  h.put (h.fresh hp).1 (h.fresh hp).2.1 (h.fresh hp).2.2.1 (h.fresh hp).2.2.2
/-- a seat is noted -/
theorem PHere.note {H : Hp} {np lp : Addr} {ds : List Addr} {n : Nat} {ts : List Tie} {ks : List Int} {H' : Hp} {k : Int} (h : PHere H np ds n ts lp ks H') : PHere H np ds n ts lp (ks ++ [k]) (upd H' lp (.dK (ikv (fun k => .int (kin ts k)) (ks ++ [k])))) :=
  ⟨h.kp.put h.new, h.near.put h.off.1 h.off.2, h.new, h.off, upd_same⟩
def spPartsIn : Sp := fun vs H Q _ => ∃ (n : Nat) (ts : List Tie) (v : V), vs = [.int n, v] ∧ n ≤ 40 ∧ NetS (up n) ts ∧ Nt H v ts ∧ ∀ q H', Kp [] H H' → Da (fun b => H b = none) H' (.ref q) (listsD (partsOf n ts)) → Q (.ref q) H'
section
variable {P : Program} {w : World} {K : PySem.W.Frag} {mg : Str → Option Value} {base : Heap}
theorem ok_parts_in (T : Txt K mg base) : FnG P w K mg base CX0 2 T.a_parts_in T.fd_parts_in ["seats", "ties"] spPartsIn := by
  refine fnG_of0 T.F_parts_in sc_parts_in (fun vs H Q E h => ?_) (fun cdv A outer s H vs Q E hcd hr gd h => ?_)
  · obtain ⟨n, ts, v, rfl, _⟩ := h
    rfl
  · obtain ⟨n, ts, v, rfl, n2, hS, hN, q⟩ := h
    refine ⟨_, (pss_cons (ps_set (i := 2) sc_parts_in.nd rfl (Or.inl rfl) (pe_callG (ok_near_in T) (hr.mono (by decide)) gd rfl T.m_near_in T.F_near_in.kp T.b_near_in .nil pass0 (pa_cons (pv 0) (pa_cons (pv 1) pa_nil))))
    (pss_cons (ps_set (i := 3) sc_parts_in.nd rfl (Or.inl rfl) pe_dnewK)
    (pss_cons (ps_for PassesOwn.never rfl (pi_range2 (by rfl) T.n_range (pa_cons pe_int (pa_cons (pe_op op_add (pv 0) pe_int) pa_nil))) (pg_name (i := 4) sc_parts_in.nd rfl (Or.inl rfl))
      (pss_one (ps_if (pt_cmp (pc_dnotin hr.u1 (pv 4) (pv 3)) (by rfl))
        (pss_cons (ps_dput hr.u1 (pv 3) (pv 4) (pv 4) rfl)
        (pss_cons (ps_set (i := 5) sc_parts_in.nd rfl (Or.inl rfl) (pe_lst (pa_cons (pv 4) pa_nil)))
        (pss_one (ps_while PassesOwn.never (pt_cmpR (op_neE hr.units0) (pv 5) (pe_lst pa_nil) (nomark _))
          (pss_cons (ps_set (i := 6) sc_parts_in.nd rfl (Or.inl rfl) (pe_bm0 PySem.F.plainAttrs_list PySem.F.slot_list_pop PySem.F.type_list_pop mt_pop (pv 5)))
          (pss_one (ps_lock (ps_for PassesOwn.never rfl (pi_keys (pe_ix ix_list (pv 2) (pv 6) (fun _ _ => rfl))) (pg_name (i := 7) sc_parts_in.nd rfl (Or.inl rfl))
            (pss_one (ps_if (pt_cmp (pc_dnotin hr.u1 (pv 7) (pv 3)) (by rfl))
              (pss_cons (ps_dput hr.u1 (pv 3) (pv 7) (pv 4) rfl)
              (pss_one (ps_expr (pe_bm PySem.F.plainAttrs_list PySem.F.slot_list_append PySem.F.type_list_append mt_append (pv 5) (pa_cons (pv 7) pa_nil)))))
              pss_nil))))))))))
        pss_nil)))
    (pss_cons (ps_set (i := 8) sc_parts_in.nd rfl (Or.inl rfl) pe_dnewK)
    (pss_cons (ps_for PassesOwn.never rfl (pi_range2 (by rfl) T.n_range (pa_cons pe_int (pa_cons (pe_op op_add (pv 0) pe_int) pa_nil))) (pg_name (i := 4) sc_parts_in.nd rfl (Or.inl rfl))
      (pss_one (ps_expr (pe_bm PySem.F.plainAttrs_list PySem.F.slot_list_append PySem.F.type_list_append mt_append (pe_dsetd (pv 8) (pe_dget hr.u1 (pv 3) (pv 4) (fun _ _ => rfl)) (pe_lst pa_nil) ⟨rfl, rfl, rfl, rfl⟩) (pa_cons (pv 4) pa_nil)))))
    (pss_one (ps_ret (Sx.pe_listVals rfl (pv 8) (by rfl) T.n_list)))))))), ?_⟩
    rw [show start ["seats", "ties", "near", "least", "seat", "last", "here", "other", "told"] [.int n, v] = [some (.int n), some (v), none, none, none, none, none, none, none] from rfl]
    walk_at "go"
    refine ⟨n, ts, v, rfl, n2, hS, hN, fun np ds H1 hK1 hA1 => ?_⟩
    walk_at "go"
    refine g_dnew fun lp hlp => ?_
    walk_at "go"
    have P0 : PHere H np ds n ts lp [] (upd H1 lp (.dK [])) := ⟨hK1.put (hK1.free hlp), hA1.put (hA1.fresh hlp).1 (hA1.fresh hlp).2, hK1.free hlp, hA1.fresh hlp, upd_same⟩
    rw [show ((n : Int) + 1 - 1).toNat = n by omega]
    refine g_forR (fun i σ' H' => ∃ x4 x5 x6 x7 ks, σ' = [some (.int n), some v, some (.ref np), some (.ref lp), x4, x5, x6, x7, none] ∧ PHere H np ds n ts lp ks H' ∧ Found n ts i ks)
      ⟨_, _, _, _, [], rfl, P0, Found.nil n ts⟩ ?_ ?_
    · rintro i σ' H' hi ⟨x4, x5, x6, x7, ks, rfl, hP, hF⟩
      walk_at "go"
      have e1 : (1 : Int) + (i : Int) = (i : Int) + 1 := Int.add_comm _ _
      refine g_din (k := .inl (1 + (i : Int))) hP.lst rfl ?_
      walk_at "go"
      rw [e1]
      refine g_kB (fun c => ?_) (fun c => ?_)
      · have nin : ((i : Int) + 1) ∉ ks := fun z => by
          rw [ikv_val, if_pos z] at c
          simp at c
        have rt := hF.root hS hi nin
        walk_at "go"
        have lens : ∀ {l : List Int}, l.Nodup → (∀ x ∈ l, x ∈ up n) → l.length ≤ n := fun {l} a b => by
          have := nodup_le a b
          rwa [up_length] at this
        refine g_put (k := .inl ((i : Int) + 1)) hP.lst rfl (by rw [ikv_len]; exact triv_szl (by have := lens hF.nd hF.sub; omega)) ?_
        have e2 := ikv_put (f := fun k => V.int (kin ts k)) nin
        simp only [rt] at e2
        rw [e2]
        walk_at "go"
        rename_i la hla
        have hP1 := (hP.note (k := (i : Int) + 1)).junk (o := .lst [.int ((i : Int) + 1)]) hla
        obtain ⟨f1, f2, f3, f4⟩ := (hP.note (k := (i : Int) + 1)).fresh hla
        have D1 := Dfs.start hF hS hi nin
        refine g_whl (fun σ' H' => ∃ x6 x7 k1 l1, σ' = [some (.int n), some v, some (.ref np), some (.ref lp), some (.int ((i : Int) + 1)), some (.ref la), x6, x7, none] ∧ PHere H np ds n ts lp k1 H' ∧ H' la = some (.lst (l1.map V.int)) ∧ Dfs n ts ks ((i : Int) + 1) (fun _ => False) k1 l1 ∧ 2 * (n - k1.length) + l1.length ≤ 200)
          (fun σ' H' => 2 * (n - (match H' lp with | some (.dK kvs) => kvs.length | _ => 0)) + (match H' la with | some (.lst l) => l.length | _ => 0)) ⟨_, _, _, [(i : Int) + 1], rfl, hP1, upd_same, D1, by rw [List.length_singleton]; omega⟩ ?_
        clear hP1 D1 hla hP c H'
        rintro σ' H' ⟨x6, x7, k1, l1, rfl, hP, hl, hD, hb⟩
        walk_at "go"
        rename_i em hem
        have hP' := hP
        have hl' := hl
        have hP := hP.junk (o := .lst []) hem
        have hl : (upd H' em (.lst [])) la = some (.lst (l1.map V.int)) := by rw [upd_ne (ne_of_none hl hem)]; exact hl
        refine g_kB (fun e => ?_) (fun e => ?_)
        · obtain ⟨l0, u, rfl⟩ : ∃ l0 u, l1 = l0 ++ [u] := by
            cases l1 with
            | nil => simp at e
            | cons a r => exact ⟨(a :: r).dropLast, (a :: r).getLast (List.cons_ne_nil _ _), (List.dropLast_concat_getLast _).symm⟩
          obtain ⟨uk, us⟩ := hD.st u (List.mem_append_right _ (List.mem_singleton.mpr rfl))
          have ub := up_mem.mp (hD.sub u uk)
          obtain ⟨a, ea⟩ : ∃ a : Nat, u = a := ⟨u.toNat, by omega⟩
          have hlen := hP.near.len
          have hda : ds[a]? = some ds[a] := List.getElem?_eq_getElem (by omega)
          generalize ds[a] = d at hda
          have din := List.mem_of_getElem? hda
          walk_at "go"
          refine ⟨la, (l0 ++ [u]).map V.int, .int u, rfl, rfl, hl, ?_, ?_⟩
          · rw [List.length_map, List.length_append, List.length_singleton, List.getElem?_map, Nat.add_sub_cancel, List.getElem?_append_right (Nat.le_refl _), Nat.sub_self]; rfl
          rw [show ((l0 ++ [u]).map V.int).dropLast = l0.map V.int by rw [List.map_append]; exact List.dropLast_concat]
          have hP2 := hP.put (o := .lst (l0.map V.int)) f1 f2 f3 f4
          have hla2 : (upd (upd H' em (.lst [])) la (.lst (l0.map V.int))) la = some (.lst (l0.map V.int)) := upd_same
          generalize upd (upd H' em (.lst [])) la (.lst (l0.map V.int)) = G at hP2 hla2
          have hd2 : G d = some (.dK (nkv (nearL ts u))) := by rw [ea]; exact hP2.near.dct a d hda
          have dnp : d ≠ np := (hP2.near.news d din).2
          have dlp : d ≠ lp := fun z => hP2.off.2 (z ▸ din)
          have dla : d ≠ la := fun z => f3 (z ▸ din)
          have at1 : atI (ds.map V.ref) u = some (.ref d) := atI_of ea (by rw [List.getElem?_map, hda]; rfl)
          walk_at "go"
          refine ⟨d, _, hd2, trivial, fun od => ?_⟩
          have hnp : (upd G d (.frz od (.dK (nkv (nearL ts u))))) np = some (.lst (ds.map V.ref)) := by rw [upd_ne (Ne.symm dnp)]; exact hP2.near.lst
          walk_at "go"
          refine g_kIK upd_same ?_
          refine g_it walk_keys (fun j σ' G' => ∃ x7 k2 l2, σ' = [some (.int n), some v, some (.ref np), some (.ref lp), some (.int ((i : Int) + 1)), some (.ref la), some (.int u), x7, none] ∧ G' d = some (.frz od (.dK (nkv (nearL ts u)))) ∧
              PHere H np ds n ts lp k2 (upd G' d (.dK (nkv (nearL ts u)))) ∧ G' la = some (.lst (l2.map V.int)) ∧ Dfs n ts ks ((i : Int) + 1) (· = u) k2 l2 ∧ (∀ y ∈ (nearL ts u).take j, y ∈ k2) ∧ 2 * (n - k2.length) + l2.length ≤ 2 * (n - k1.length) + l0.length)
            ⟨_, k1, l0, rfl, upd_same, ?_, by rw [upd_ne (Ne.symm dla)]; exact hla2, hD.take, fun _ z => (by simp at z), Nat.le_refl _⟩ (fun j σ' G' _ h => ?_) ?_ ?_
          · rw [upd_upd, upd_id hd2]; exact hP2
          · obtain ⟨_, _, _, _, h, _⟩ := h
            exact h
          · clear hP2 hla2 hd2 hnp
            rintro j x σ' G' G'' hj ⟨x7, k2, l2, rfl, hfd, hP2, hla2, hD2, htk, hμ⟩ ⟨rfl, k, v', hk, rfl⟩
            obtain ⟨y, hy, ek⟩ : ∃ y, (nearL ts u)[j]? = some y ∧ (Sum.inl y, V.bl true) = (k, v') := by
              unfold nkv at hk
              rw [List.getElem?_map] at hk
              obtain ⟨y, h1, h2⟩ := Option.map_eq_some_iff.mp hk
              exact ⟨y, h1, h2⟩
            cases ek
            have adj := (nearL_mem (fun t ht => (hS.mem t ht).2.2)).mp (List.mem_of_getElem? hy)
            have yu : y ∈ up n ∧ kin ts y = (i : Int) + 1 := by
              rcases adj with z | z
              · exact ⟨(hS.mem _ z).2.1, (kin_tie ts _ z).symm.trans us⟩
              · exact ⟨(hS.mem _ z).1, (kin_tie ts _ z).trans us⟩
            have hlp : G'' lp = some (.dK (ikv (fun k => .int (kin ts k)) k2)) := by
              have := hP2.lst
              rwa [upd_ne (Ne.symm dlp)] at this
            walk_at "go"
            refine g_din (k := .inl y) hlp rfl ?_
            walk_at "go"
            refine g_kB (fun c => ?_) (fun c => ?_)
            · have nin2 : y ∉ k2 := fun z => by
                rw [ikv_val, if_pos z] at c
                simp at c
              have hle := lens hD2.nd hD2.sub
              walk_at "go"
              refine g_put (k := .inl y) hlp rfl (by rw [ikv_len]; exact triv_szl (by omega)) ?_
              have e3 := ikv_put (f := fun k => V.int (kin ts k)) nin2
              simp only [yu.2] at e3
              rw [e3]
              walk_at "go"
              have hla3 : (upd G'' lp (.dK (ikv (fun k => .int (kin ts k)) (k2 ++ [y])))) la = some (.lst (l2.map V.int)) := by rw [upd_ne f4]; exact hla2
              have hD3 := hD2.push nin2 yu.1 yu.2
              have hle3 := lens hD3.nd hD3.sub
              rw [List.length_append, List.length_singleton] at hle3
              walk_at "go"
              refine g_append hla3 (triv_szl ?_) ?_
              · rw [List.length_append, List.length_singleton] at hb
                rw [List.length_map]; omega
              walk_at "go"
              refine ⟨_, k2 ++ [y], l2 ++ [y], rfl, ?_, ?_, ?_, hD3, fun z hz => ?_, ?_⟩
              · rw [upd_ne dla, upd_ne dlp]; exact hfd
              · rw [upd_swap dla, upd_swap dlp]
                exact (hP2.note (k := y)).put f1 f2 f3 f4
              · rw [upd_same, List.map_append]; rfl
              · rw [List.take_add_one, hy] at hz
                rcases List.mem_append.mp hz with hz | hz
                · exact List.mem_append_left _ (htk z hz)
                · exact List.mem_append_right _ (by simpa using hz)
              · rw [List.length_append, List.length_append]
                simp only [List.length_singleton]
                omega
            · have yin : y ∈ k2 := Classical.byContradiction fun z => by
                rw [ikv_val, if_neg z] at c
                simp at c
              walk_at "go"
              refine ⟨_, k2, l2, rfl, hfd, hP2, hla2, hD2, fun z hz => ?_, hμ⟩
              rw [List.take_add_one, hy] at hz
              rcases List.mem_append.mp hz with hz | hz
              · exact htk z hz
              · obtain rfl : z = y := by simpa using hz
                exact yin
          · rintro σ' G' ⟨x7, k2, l2, rfl, hfd, hP3, hla3, hD3, htk, hμ⟩
            rw [show (nkv (nearL ts u)).length = (nearL ts u).length from List.length_map _, List.take_of_length_le (Nat.le_refl _)] at htk
            refine ⟨hfd, ?_⟩
            walk_at "go"
            have hla4 : (upd G' d (.dK (nkv (nearL ts u)))) la = some (.lst (l2.map V.int)) := by rw [upd_ne (Ne.symm dla)]; exact hla3
            refine ⟨⟨_, _, k2, l2, rfl, hP3, hla4, hD3.end fun y hy => htk y ((nearL_mem (fun t ht => (hS.mem t ht).2.2)).mpr hy), by rw [List.length_append, List.length_singleton] at hb; omega⟩, ?_⟩
            rw [hP3.lst, hla4, hP'.lst, hl']
            simp only [ikv_len, List.length_map, List.length_append, List.length_singleton]
            omega
        · obtain rfl : l1 = [] := by
            cases l1 with
            | nil => rfl
            | cons _ _ => simp at e
          walk_at "go"
          exact ⟨_, _, _, _, k1, rfl, hP, hD.stop hF hi nin rt⟩
      · have yin : ((i : Int) + 1) ∈ ks := Classical.byContradiction fun z => by
          rw [ikv_val, if_neg z] at c
          simp at c
        walk_at "go"
        exact ⟨_, _, _, _, ks, rfl, hP, hF.more yin⟩
    · rintro σ' H' ⟨x4, x5, x6, x7, ks, rfl, hP, hF⟩
      walk_at "go"
      refine g_dnew fun tp htp => ?_
      walk_at "go"
      obtain ⟨t0, -, -, tlp⟩ := hP.fresh htp
      rw [show ((n : Int) + 1 - 1).toNat = n by omega]
      refine g_forR (fun i σ' G => ∃ x4 tl, σ' = [some (.int n), some v, some (.ref np), some (.ref lp), x4, x5, x6, x7, some (.ref tp)] ∧ Kp [] H G ∧ G lp = some (.dK (ikv (fun k => .int (kin ts k)) ks)) ∧ G tp = some (.dK (pkv tl)) ∧ tl.map (·.1) = rootsOf ts i ∧ (tl.map (·.2)).Nodup ∧
          ∀ p ∈ tl, H p.2 = none ∧ p.2 ≠ tp ∧ p.2 ≠ lp ∧ G p.2 = some (.lst ((partOf ts i p.1).map V.int)))
        ⟨_, [], rfl, hP.kp.put t0, by rw [upd_ne (Ne.symm tlp)]; exact hP.lst, upd_same, rfl, List.nodup_nil, fun _ z => (nomatch z)⟩ ?_ ?_
      · clear hP htp
        rintro i σ' G hi ⟨x4, tl, rfl, hK, hlp, htp, hr, hnd, hl⟩
        have e1 : (1 : Int) + (i : Int) = (i : Int) + 1 := Int.add_comm _ _
        have sin : ((i : Int) + 1) ∈ ks := hF.has _ (up_mem.mpr (by omega))
        have le := kin_le ts ((i : Int) + 1)
        have inn := up_mem.mp (kin_in (fun t ht => ⟨(hS.mem t ht).1, (hS.mem t ht).2.1⟩) (up_mem.mpr ⟨by omega, by omega⟩ : ((i : Int) + 1) ∈ up n))
        have rs : rootsOf ts (i + 1) = rootsOf ts i ++ (if kin ts ((i : Int) + 1) = (i : Int) + 1 then [(i : Int) + 1] else []) := by
          unfold rootsOf
          rw [up_succ, List.filter_append]
          congr 1
          by_cases c : kin ts ((i : Int) + 1) = (i : Int) + 1
          · rw [if_pos c, List.filter_cons, if_pos (decide_eq_true c)]; rfl
          · rw [if_neg c, List.filter_cons, if_neg (by simpa using c)]; rfl
        have ps : ∀ r, partOf ts (i + 1) r = partOf ts i r ++ (if kin ts ((i : Int) + 1) = r then [(i : Int) + 1] else []) := fun r => by
          unfold partOf
          rw [up_succ, List.filter_append]
          congr 1
          by_cases c : kin ts ((i : Int) + 1) = r
          · rw [if_pos c, List.filter_cons, if_pos (decide_eq_true c)]; rfl
          · rw [if_neg c, List.filter_cons, if_neg (by simpa using c)]; rfl
        have rin : ∀ r, r ∈ tl.map (·.1) ↔ r ∈ rootsOf ts i := fun r => by rw [hr]
        have few : tl.length ≤ i := by
          have := congrArg List.length hr
          rw [List.length_map] at this
          rw [this]
          exact Nat.le_trans (List.length_filter_le _ _) (Nat.le_of_eq (up_length i))
        have small : ∀ r, (partOf ts i r).length ≤ i := fun r => Nat.le_trans (List.length_filter_le _ _) (Nat.le_of_eq (up_length i))
        walk_at "go"
        rw [e1]
        refine g_get (k := .inl ((i : Int) + 1)) hlp rfl (by rw [ikv_val, if_pos sin]) ?_
        walk_at "go"
        rename_i em hem
        have Hem : H em = none := hK.free hem
        have emt : em ≠ tp := fun z => by rw [z, htp] at hem; cases hem
        have eml : em ≠ lp := fun z => by rw [z, hlp] at hem; cases hem
        refine g_sdk (k := .inl (kin ts ((i : Int) + 1))) (by rw [upd_ne (Ne.symm emt)]; exact htp) rfl (by unfold pkv; rw [List.length_map]; exact triv_szl (by omega)) (fun u hu => ?_) (fun hu => ?_)
        · obtain ⟨p, hp, ep, rfl⟩ := pkv_some hu
          obtain ⟨p1, p2, p3, p4⟩ := hl p hp
          have nr : kin ts ((i : Int) + 1) ≠ (i : Int) + 1 := fun z => by
            have := (rin p.1).mp (List.mem_map.mpr ⟨p, hp, rfl⟩)
            have := up_mem.mp ((List.mem_filter.mp this).1)
            omega
          have pem : p.2 ≠ em := fun z => by rw [z, hem] at p4; cases p4
          have p5 : (upd G em (.lst [])) p.2 = some (.lst ((partOf ts i p.1).map V.int)) := by rw [upd_ne pem]; exact p4
          walk_at "go"
          refine g_append p5 (triv_szl (by rw [List.length_map]; have := small p.1; omega)) ?_
          walk_at "go"
          refine ⟨_, tl, rfl, (hK.put Hem).put p1, by rw [upd_ne (Ne.symm p3), upd_ne (Ne.symm eml)]; exact hlp, by rw [upd_ne (Ne.symm p2), upd_ne (Ne.symm emt)]; exact htp, by rw [hr, rs, if_neg nr, List.append_nil], hnd, fun p' hp' => ?_⟩
          obtain ⟨q1, q2, q3, q4⟩ := hl p' hp'
          refine ⟨q1, q2, q3, ?_⟩
          by_cases c : p' = p
          · subst c
            rw [upd_same, ps, if_pos ep.symm, List.map_append]; rfl
          · have c2 : p'.2 ≠ p.2 := fun z => c (map_inj hnd hp' hp z)
            have c1 : kin ts ((i : Int) + 1) ≠ p'.1 := fun z => c (map_inj (by rw [hr]; exact (up_nodup i).filter _) hp' hp (z.symm.trans ep.symm))
            have c3 : p'.2 ≠ em := fun z => by rw [z, hem] at q4; cases q4
            rw [upd_ne c2, upd_ne c3, ps, if_neg c1, List.append_nil]
            exact q4
        · have nin : kin ts ((i : Int) + 1) ∉ rootsOf ts i := fun z => pkv_none hu ((rin _).mpr z)
          have rt : kin ts ((i : Int) + 1) = (i : Int) + 1 := Classical.byContradiction fun z => nin (List.mem_filter.mpr ⟨up_mem.mpr ⟨inn.1, by omega⟩, decide_eq_true (kin_mk ts _)⟩)
          rw [rt]
          rw [rt] at hu nin
          have e2 : putK (pkv tl) (Sum.inl ((i : Int) + 1)) (.ref em) = pkv (tl ++ [((i : Int) + 1, em)]) := by
            rw [putK_new _ hu]
            unfold pkv
            rw [List.map_append]; rfl
          rw [e2]
          have e3 : (upd (upd G em (.lst [])) tp (.dK (pkv (tl ++ [((i : Int) + 1, em)])))) em = some (.lst []) := by rw [upd_ne emt]; exact upd_same
          walk_at "go"
          refine g_append e3 (triv_szl (by simp)) ?_
          walk_at "go"
          refine ⟨_, tl ++ [((i : Int) + 1, em)], rfl, ((hK.put Hem).put t0).put Hem, by rw [upd_ne (Ne.symm eml), upd_ne (Ne.symm tlp), upd_ne (Ne.symm eml)]; exact hlp, by rw [upd_ne (Ne.symm emt)]; exact upd_same, by rw [List.map_append, hr, rs, if_pos rt]; rfl, ?_, fun p' hp' => ?_⟩
          · rw [List.map_append]
            refine List.nodup_append.mpr ⟨hnd, List.nodup_cons.mpr ⟨(nomatch ·), List.nodup_nil⟩, fun a ha b hb z => ?_⟩
            obtain ⟨p, hp, rfl⟩ := List.mem_map.mp ha
            have hb : b = em := by simpa using hb
            have := (hl p hp).2.2.2
            rw [z, hb, hem] at this
            cases this
          · rcases List.mem_append.mp hp' with hp' | hp'
            · obtain ⟨q1, q2, q3, q4⟩ := hl p' hp'
              have c3 : p'.2 ≠ em := fun z => by rw [z, hem] at q4; cases q4
              have c1 : kin ts ((i : Int) + 1) ≠ p'.1 := fun z => nin (by rw [← rt, z]; exact (rin _).mp (List.mem_map.mpr ⟨p', hp', rfl⟩))
              refine ⟨q1, q2, q3, ?_⟩
              rw [upd_ne c3, upd_ne q2, upd_ne c3, ps, if_neg c1, List.append_nil]
              exact q4
            · obtain rfl := List.mem_singleton.mp hp'
              refine ⟨Hem, emt, eml, ?_⟩
              have z : partOf ts i ((i : Int) + 1) = [] := List.filter_eq_nil_iff.mpr fun x hx => by
                have := up_mem.mp hx
                have := kin_le ts x
                simp
                omega
              rw [upd_same, ps, if_pos rt, z]; rfl
      · rintro σ' G ⟨x4, tl, rfl, hK, hlp, htp, hr, hnd, hl⟩
        walk_at "go"
        rename_i r hrn
        have Hr := hK.free hrn
        refine q r _ (hK.put Hr) (.lst Hr upd_same ?_)
        unfold partsOf
        rw [← hr]
        unfold pkv
        rw [List.map_map, List.map_map, List.map_map]
        have hl' : ∀ p ∈ tl, H p.2 = none ∧ (upd G r (.lst (tl.map ((fun x => x.2) ∘ fun p => ((Sum.inl p.1 : Key), V.ref p.2))))) p.2 = some (.lst ((partOf ts n p.1).map V.int)) := fun p hp => by
          obtain ⟨p1, p2, p3, p4⟩ := hl p hp
          exact ⟨p1, by rw [upd_ne (ne_of_none p4 hrn)]; exact p4⟩
        generalize upd G r _ = G2 at hl' ⊢
        clear hr hnd htp hl
        induction tl with
        | nil => exact .nil
        | cons p tl ih =>
          obtain ⟨p1, p4⟩ := hl' p List.mem_cons_self
          exact .cons (.lst p1 p4 (DaAll.ints _)) (ih fun p' hp' => hl' p' (List.mem_cons_of_mem _ hp'))
end
end Ap


namespace Ap
open PySem L2 PySem.Spec PyProof.Rows
def woodB (n : Nat) (ts : List Tie) : Bool := decide ((ts.length : Int) + (partsOf n ts).length = n)
/-- a row, as the program tells it -/
def RowP (n : Nat) (ts : List Tie) : Prop := (partsOf n ts).length ≤ 1 ∧ (ts.length : Int) = (n : Int) - 1 ∧ ∀ k : Nat, k ≤ n → (nearL ts k).length ≤ 2
def spWoodIn : Sp := fun vs H Q _ => ∃ (n : Nat) (ts : List Tie) (v : V), vs = [.int n, v] ∧ n ≤ 40 ∧ NetS (up n) ts ∧ Nt H v ts ∧ ∀ H', Kp [] H H' → Q (.bl (woodB n ts)) H'
def spRowIn : Sp := fun vs H Q _ => ∃ (n : Nat) (ts : List Tie) (v : V), vs = [.int n, v] ∧ n ≤ 40 ∧ NetS (up n) ts ∧ Nt H v ts ∧ ∀ b H', (b = true ↔ RowP n ts) → Kp [] H H' → Q (.bl b) H'
/-- the three askings, net checked -/
def spParts (tb : List Addr) : Sp := fun vs H Q _ => ∃ (n : Nat) (ts : List Tie) (v : V), vs = [.int n, v] ∧ 3 ≤ n ∧ n ≤ 40 ∧ NetS (up n) ts ∧ Nt H v ts ∧ Tabs tb H ∧ ∀ q H', Kp [] H H' → Da (fun b => H b = none) H' (.ref q) (listsD (partsOf n ts)) → Q (.ref q) H'
def spWood (tb : List Addr) : Sp := fun vs H Q _ => ∃ (n : Nat) (ts : List Tie) (v : V), vs = [.int n, v] ∧ 3 ≤ n ∧ n ≤ 40 ∧ NetS (up n) ts ∧ Nt H v ts ∧ Tabs tb H ∧ ∀ H', Kp [] H H' → Q (.bl (woodB n ts)) H'
def spRow (tb : List Addr) : Sp := fun vs H Q _ => ∃ (n : Nat) (ts : List Tie) (v : V), vs = [.int n, v] ∧ 3 ≤ n ∧ n ≤ 40 ∧ NetS (up n) ts ∧ Nt H v ts ∧ Tabs tb H ∧ ∀ b H', (b = true ↔ RowP n ts) → Kp [] H H' → Q (.bl b) H'
theorem Da.lst_len {P : Addr → Prop} {H : Hp} {q : Addr} {ds : List PyData} (h : Da P H (.ref q) (.list ds)) : ∃ xs, H q = some (.lst xs) ∧ xs.length = ds.length ∧ DaAll P H xs ds := by
  obtain ⟨p, xs, e, _, h, a⟩ := h.list_inv
  cases e
  exact ⟨xs, h, a.length, a⟩
theorem Nt.len {H : Hp} {v : V} {ts : List Tie} (h : Nt H v ts) : ∃ p xs, v = .ref p ∧ H p = some (.lst xs) ∧ xs.length = ts.length := by
  obtain ⟨p, xs, rfl, _, hp, hA⟩ := h.list_inv
  exact ⟨p, xs, rfl, hp, by rw [hA.length, List.length_map]⟩
section
variable {P : Program} {w : World} {K : PySem.W.Frag} {mg : Str → Option Value} {base : Heap}
theorem ok_is_wood_in (T : Txt K mg base) : FnG P w K mg base CX0 3 T.a_is_wood_in T.fd_is_wood_in ["seats", "ties"] spWoodIn := by
  refine fnG_of0 T.F_is_wood_in sc_is_wood_in (fun vs H Q E h => ?_) (fun cdv A outer s H vs Q E hcd hr gd h => ?_)
  · obtain ⟨n, ts, v, rfl, _⟩ := h
    rfl
  · obtain ⟨n, ts, v, rfl, n2, hS, hN, q⟩ := h
    obtain ⟨p, xs, rfl, hp, hx⟩ := hN.len
    refine ⟨_, (pss_one (ps_ret (pe_cmpR op_eq (pe_op op_add (pe_callB cr_len (by rfl) T.n_len (by decide +kernel) (pa_cons (pv 1) pa_nil)) (pe_callB cr_len (by rfl) T.n_len (by decide +kernel) (pa_cons (pe_callG (ok_parts_in T) (hr.mono (by decide)) gd rfl T.m_parts_in T.F_parts_in.kp T.b_parts_in .nil pass0 (pa_cons (pv 0) (pa_cons (pv 1) pa_nil))) pa_nil))) (pv 0) (nomark _)))), ?_⟩
    rw [show start ["seats", "ties"] [.int n, .ref p] = [some (.int n), some (.ref p)] from rfl]
    walk_at "go"
    refine ⟨n, ts, .ref p, rfl, n2, hS, hN, fun r H' hK hD => ?_⟩
    obtain ⟨ys, hr', hy, _⟩ := hD.lst_len
    walk_at "go"
    rw [hx, hy, List.length_map]
    exact q H' hK
theorem ok_is_row_in (T : Txt K mg base) : FnG P w K mg base CX0 3 T.a_is_row_in T.fd_is_row_in ["seats", "ties"] spRowIn := by
  refine fnG_of0 T.F_is_row_in sc_is_row_in (fun vs H Q E h => ?_) (fun cdv A outer s H vs Q E hcd hr gd h => ?_)
  · obtain ⟨n, ts, v, rfl, _⟩ := h
    rfl
  · obtain ⟨n, ts, v, rfl, n2, hS, hN, q⟩ := h
    obtain ⟨p, xs, rfl, hp, hx⟩ := hN.len
    refine ⟨_, (Evl.pss_cut (ps_if (PW.pt (pw_or (pt_cmpR op_gt (pe_callB cr_len (by rfl) T.n_len (by decide +kernel) (pa_cons (pe_callG (ok_parts_in T) (hr.mono (by decide)) gd rfl T.m_parts_in T.F_parts_in.kp T.b_parts_in .nil pass0 (pa_cons (pv 0) (pa_cons (pv 1) pa_nil))) pa_nil)) pe_int (nomark _)) (pw_or1 (pt_cmpR op_ne (pe_callB cr_len (by rfl) T.n_len (by decide +kernel) (pa_cons (pv 1) pa_nil)) (pe_op op_sub (pv 0) pe_int) (nomark _)))))
      (pss_one (ps_ret pe_bl))
      pss_nil)
    (pss_one (ps_ret (pe_cmpR op_le (pe_callB (cr_max rfl) (by rfl) T.n_max (by decide +kernel) (pa_cons (pe_lc (own := [("some", 2)]) (g := gName 2) (tt := tYes) rfl sc_is_row_in.nd (pi_list (pe_callG (ok_near_in T) (hr.mono (by decide)) gd rfl T.m_near_in T.F_near_in.kp T.b_near_in .nil pass0 (pa_cons (pv 0) (pa_cons (pv 1) pa_nil)))) (blkOk_by (N := ["seats", "ties", "some"]) (sc := defScope s_is_row_in) (by decide +kernel)) (fun _ _ _ _ _ => (pg_name (i := 2) sc_is_row_in.nd rfl (Or.inl rfl))) (fun _ _ _ _ _ => pts_nil) (fun _ _ _ _ _ => (pe_callB call_lenD (by rfl) T.n_len (by decide +kernel) (pa_cons (pv 2) pa_nil)))) pa_nil)) pe_int (nomark _))))), ?_⟩
    rw [show start ["seats", "ties", "some"] [.int n, .ref p] = [some (.int n), some (.ref p), none] from rfl]
    refine g_cut (fun σ' H' => σ' = [some (.int n), some (.ref p), none] ∧ Kp [] H H' ∧ (partsOf n ts).length ≤ 1 ∧ (ts.length : Int) = (n : Int) - 1) ?_ ?_
    · walk_at "go"
      refine ⟨n, ts, .ref p, rfl, n2, hS, hN, fun r H' hK hD => ?_⟩
      obtain ⟨ys, hr', hy, _⟩ := hD.lst_len
      rw [List.length_map] at hy
      walk_at "go"
      rw [hy]
      refine g_kD (fun c => ?_) (fun c => ?_)
      · walk_at "go"
        refine q false H' ⟨fun z => (nomatch z), fun z => ?_⟩ hK
        have := z.1
        omega
      · have hp' := hK.lst nin0 hp
        walk_at "go"
        rw [hx]
        refine g_kN (fun c2 => ?_) (fun c2 => ?_)
        · walk_at "go"
          exact q false H' ⟨fun z => (nomatch z), fun z => absurd z.2.1 c2⟩ hK
        · walk_at "go"
          exact ⟨rfl, hK, by omega, c2⟩
    · rintro σ' H' ⟨rfl, hK, r1, r2⟩
      walk_at "go"
      refine ⟨n, ts, .ref p, rfl, n2, hS, Nt.kp hN hK, fun np ds H2 hK2 hA => ?_⟩
      walk_at "go"
      refine g_kIL hA.lst ?_
      refine g_lc (walk_list (xs := ds.map V.ref)) (w0 := [some (.int n), some (.ref p), none]) rfl fun D hD => ⟨fun i G => ∃ ls : List Int, ls.length = i ∧ G D = some (.lst (ls.map V.int)) ∧ NearAt H' np ds n ts G ∧ Kp [] H G ∧ ∀ k : Nat, k < i → ls[k]? = some ((nearL ts k).length : Int),
        ⟨[], rfl, upd_same, hA.put (hA.fresh hD).1 (hA.fresh hD).2, (hK.trans hK2).put (hK.free (hK2.free hD)), fun k hk => absurd hk (Nat.not_lt_zero _)⟩, fun i G _ h => ?_, ?_, ?_⟩
      · obtain ⟨_, _, _, h, _⟩ := h
        exact SqL.of h.lst
      · rintro i x G G' hi ⟨ls, hn, hl, hA2, hK3, hls⟩ ⟨rfl, hx2⟩
        rw [List.getElem?_map] at hx2
        obtain ⟨d, hd, rfl⟩ := Option.map_eq_some_iff.mp hx2
        have hdd := hA2.dct i d hd
        have hDn : D ≠ np := (hA.fresh hD).1
        walk_at "go"
        refine g_kLg rfl ?_
        walk_at "go"
        refine ⟨d, _, rfl, hdd, g_kLe (acc := ls.map V.int) hl (triv_szl ?_) ⟨ls ++ [((nearL ts i).length : Int)], ?_, ?_, hA2.put hDn (hA.fresh hD).2, hK3.put (hK.free (hK2.free hD)), fun k hk => ?_⟩⟩
        · rw [List.length_map] at hi ⊢
          have := hA2.len
          omega
        · rw [List.length_append, hn]; rfl
        · rw [List.map_append, show (nkv (nearL ts i)).length = (nearL ts i).length from List.length_map _]; exact upd_same
        · by_cases c : k = i
          · subst c
            rw [List.getElem?_append_right (Nat.le_of_eq hn), hn, Nat.sub_self]; rfl
          · rw [List.getElem?_append_left (by omega)]
            exact hls k (by omega)
      · rintro G ⟨ls, hn, hl, hA2, hK3, hls⟩
        rw [List.length_map, hA.len] at hn hls
        walk_at "go"
        refine ⟨D, ls, rfl, SqL.of hl, by omega, fun m hm hle => ?_⟩
        walk_at "go"
        refine q _ G ⟨fun e => ⟨r1, r2, fun k hk => ?_⟩, fun e => decide_eq_true ?_⟩ hK3
        · have := hle _ (List.mem_of_getElem? (hls k (by omega)))
          have := of_decide_eq_true e
          omega
        · obtain ⟨k, hk, rfl⟩ := List.getElem_of_mem hm
          have := hls k (by omega)
          rw [List.getElem?_eq_getElem hk] at this
          rw [Option.some.inj this]
          have := e.2.2 k (by omega)
          omega
theorem ok_parts (T : Txt K mg base) : FnG P w K mg base CX0 6 T.a_parts T.fd_parts ["seats", "ties"] (spParts T.tbs) := by
  refine fnG_of0 T.F_parts sc_parts (fun vs H Q E h => ?_) (fun cdv A outer s H vs Q E hcd hr gd h => ?_)
  · obtain ⟨n, ts, v, rfl, _⟩ := h
    rfl
  · obtain ⟨n, ts, v, rfl, n1, n2, hS, hN, hT, q⟩ := h
    refine ⟨_, (pss_cons (ps_expr (pe_callG (ok_check_net T) (hr.mono (by decide)) gd rfl T.m_check_net T.F_check_net.kp T.b_check_net .nil pass0 (pa_cons (pv 0) (pa_cons (pv 1) pa_nil))))
    (pss_one (ps_ret (pe_callG (ok_parts_in T) (hr.mono (by decide)) gd rfl T.m_parts_in T.F_parts_in.kp T.b_parts_in .nil pass0 (pa_cons (pv 0) (pa_cons (pv 1) pa_nil)))))), ?_⟩
    rw [show start ["seats", "ties"] [.int n, v] = [some (.int n), some (v)] from rfl]
    walk_at "go"
    refine ⟨n, ts, v, rfl, n1, n2, hS, hN, hT, fun H1 hK1 => ?_⟩
    walk_at "go"
    refine ⟨n, ts, v, rfl, n2, hS, Nt.kp hN hK1, fun r H2 hK2 hD => ?_⟩
    walk_at "go"
    exact q r H2 (hK1.trans hK2) (hD.keep (Kp.refl [] _) (fun _ _ => nin0) fun b hb => hK1.free hb)
theorem ok_is_wood (T : Txt K mg base) : FnG P w K mg base CX0 6 T.a_is_wood T.fd_is_wood ["seats", "ties"] (spWood T.tbs) := by
  refine fnG_of0 T.F_is_wood sc_is_wood (fun vs H Q E h => ?_) (fun cdv A outer s H vs Q E hcd hr gd h => ?_)
  · obtain ⟨n, ts, v, rfl, _⟩ := h
    rfl
  · obtain ⟨n, ts, v, rfl, n1, n2, hS, hN, hT, q⟩ := h
    refine ⟨_, (pss_cons (ps_expr (pe_callG (ok_check_net T) (hr.mono (by decide)) gd rfl T.m_check_net T.F_check_net.kp T.b_check_net .nil pass0 (pa_cons (pv 0) (pa_cons (pv 1) pa_nil))))
    (pss_one (ps_ret (pe_callG (ok_is_wood_in T) (hr.mono (by decide)) gd rfl T.m_is_wood_in T.F_is_wood_in.kp T.b_is_wood_in .nil pass0 (pa_cons (pv 0) (pa_cons (pv 1) pa_nil)))))), ?_⟩
    rw [show start ["seats", "ties"] [.int n, v] = [some (.int n), some (v)] from rfl]
    walk_at "go"
    refine ⟨n, ts, v, rfl, n1, n2, hS, hN, hT, fun H1 hK1 => ?_⟩
    walk_at "go"
    refine ⟨n, ts, v, rfl, n2, hS, Nt.kp hN hK1, fun H2 hK2 => ?_⟩
    walk_at "go"
    exact q H2 (hK1.trans hK2)
theorem ok_is_row (T : Txt K mg base) : FnG P w K mg base CX0 6 T.a_is_row T.fd_is_row ["seats", "ties"] (spRow T.tbs) := by
  refine fnG_of0 T.F_is_row sc_is_row (fun vs H Q E h => ?_) (fun cdv A outer s H vs Q E hcd hr gd h => ?_)
  · obtain ⟨n, ts, v, rfl, _⟩ := h
    rfl
  · obtain ⟨n, ts, v, rfl, n1, n2, hS, hN, hT, q⟩ := h
    refine ⟨_, (pss_cons (ps_expr (pe_callG (ok_check_net T) (hr.mono (by decide)) gd rfl T.m_check_net T.F_check_net.kp T.b_check_net .nil pass0 (pa_cons (pv 0) (pa_cons (pv 1) pa_nil))))
    (pss_one (ps_ret (pe_callG (ok_is_row_in T) (hr.mono (by decide)) gd rfl T.m_is_row_in T.F_is_row_in.kp T.b_is_row_in .nil pass0 (pa_cons (pv 0) (pa_cons (pv 1) pa_nil)))))), ?_⟩
    rw [show start ["seats", "ties"] [.int n, v] = [some (.int n), some (v)] from rfl]
    walk_at "go"
    refine ⟨n, ts, v, rfl, n1, n2, hS, hN, hT, fun H1 hK1 => ?_⟩
    walk_at "go"
    refine ⟨n, ts, v, rfl, n2, hS, Nt.kp hN hK1, fun b H2 hb hK2 => ?_⟩
    walk_at "go"
    exact q b H2 hb (hK1.trans hK2)
end
end Ap


/-! KU: set(xs) of ints. -/
namespace Sx
open PySem PySem.Spec PyProof.Rows L2
section
variable {P : Program} {w : World} {A : Around} {E : Value → Shared → Prop} {s : Shared}
/-- a new set, as the model lays it -/
abbrev newSet (w : World) : Obj := { cls := .type "set", dict := none, data := .set #[] 0 (.fresh 0 0 (!w.params.followText "set-order")) }
set_option maxRecDepth 100000 in
set_option maxHeartbeats 3200000 in
theorem call_set_I {l : Addr} {its : Array Value} {ns : List Int} {Q : Value → Shared → Prop} (hh : A.handled = none) (hl : s.heap.IsList l its) (hi : IntsAre its.toList ns) (few : ns.length + 1 < scanBound)
    (q : ∀ (h' : Heap) (tk c : Nat), SetR w h' s.heap.objs.size (fun j => decide (j ∈ ns)) c → c ≤ ns.length → (∀ b o, s.heap.get? b = some o → h'.get? b = some o) → Q (.ref s.heap.objs.size) { s with heap := h', toks := tk }) :
    wpAny (model P w) A (call (.type "set") [.ref l]) Q E s := by
  have len : its.size = ns.length := by rw [← Array.length_toList]; exact hi.length
  obtain ⟨ca, tl, hmro⟩ := F.called_set.mro
  have hmade := F.called_set.made
  have hsub := F.called_set.sub
  refine wpAny_call (codeAny_of_tree (?_ : wpAny _ _ (callAny (.type "set") _) _ _ _))
  refine wpAny_pure ⟨Code.quiet_builtin _ (by decide +kernel), codeAny_builtin F.entry_type_call ?_⟩
  rw [Around.under_plain (weight_type_call_type "set" [.ref l] []) rfl]
  have h1 := F.called_set.notType
  have h2 := F.called_set.canCreate
  have hct := F.typeCall_set_1 (.ref l)
  repeat (any_goals (first | assumption | wp_step))
  refine codeAny_mono (code_set_led1 (.ref l) (E := E) (Q₁ := fun ob s₁ => ob = .ref s.heap.objs.size ∧ s₁ = { s with heap := s.heap.push (newSet w) }) ⟨rfl, rfl⟩) fun r s₁ hr => ?_
  cases r with
  | error e => exact hr
  | ok fl =>
    cases fl with
    | ret ob =>
      obtain ⟨rfl, rfl⟩ := hr
      have atS : (s.heap.push (newSet w)).get? s.heap.objs.size = some (newSet w) := Heap.get?_push_size _ rfl
      have hT : Shared.TypeIs { s with heap := s.heap.push (newSet w) } (.ref s.heap.objs.size) "set" := ⟨_, atS, rfl⟩
      have hli := F.called_set.init.lookup
      have hbi := F.called_set.init.bind (.ref s.heap.objs.size)
      repeat (any_goals (first | assumption | wp_step))
      refine codeAny_mono (codeAny_call_builtin (R := wants (fun r s₂ => r = .none ∧ ∃ h' tk c, s₂ = { s with heap := h', toks := tk } ∧ SetR w h' s.heap.objs.size (fun j => decide (j ∈ ns)) c ∧ c ≤ ns.length ∧ (∀ b o, s.heap.get? b = some o → h'.get? b = some o)) E)
        F.called_set.init.plain F.entry_set_init (check_set_init_1 hT ?_)) fun r₂ s₂ hr₂ => ?_
      · obtain ⟨ol, hol, hcl, nl, hdl⟩ := hl
        have ltl : l < s.heap.objs.size := Heap.lt_size hol
        obtain ⟨oc, od, odt, osl⟩ := ol
        simp only at hcl hdl
        subst hcl hdl
        have hol' : (s.heap.push (newSet w)).get? l = some { cls := .type "list", dict := od, data := .seq its nl, slots := osl } := Heap.get?_push_of_some _ hol
        have isl : (s.heap.push (newSet w)).IsList l its := ⟨_, hol', rfl, nl, rfl⟩
        have hsls := F.sub_list_set
        have hslf := F.sub_list_frozenset
        have hne : (Value.type "list" == Value.type "dict") = false := by decide
        unfold Builtin.«set.__init__» noKeywords Builtin.Frozenset.updateFrom
        generalize hPI : pyIter = PI
        wp_walk
        subst hPI
        refine wpAny_pyIter_list isl ?_
        refine wpAny_bind (wpAny_runValue ?_)
        have sz : (s.heap.push (newSet w)).objs.size = s.heap.objs.size + 1 := Heap.size_push ..
        have nl1 : l ≠ (s.heap.push (newSet w)).objs.size := by rw [sz]; exact Nat.ne_of_lt (Nat.lt_succ_of_lt ltl)
        have nin : s.heap.objs.size ∉ [(s.heap.push (newSet w)).objs.size, l] := by
          rw [sz]
          intro z
          rcases List.mem_cons.mp z with z | z
          · exact Nat.ne_of_lt (Nat.lt_succ_self _) z
          · exact Nat.ne_of_gt ltl (List.mem_singleton.mp z)
        have hh3 : A.in1.in1.in1.handled = none := by simp [hh]
        refine set_update_ints ((Walks.list hh3 _ l nl1 its).toS) s.heap.objs.size nin ns len few (fun i v hv => ?_) (its.size - 0) 0 _ (by omega) (Nat.zero_le _) ⟨⟨_, Heap.get?_push_size _ rfl, rfl, rfl⟩, isl.push _⟩ ?start ?fin
        · have hv2 : its.toList[i]? = some v := by rw [Array.getElem?_toList]; exact hv
          obtain ⟨t, e⟩ := IntsAre.int_at hi i v hv2
          have lt : i < ns.length := by have := (List.getElem?_eq_some_iff.mp hv2).1; rw [Array.length_toList] at this; omega
          refine ⟨ns[i], t, List.getElem?_eq_getElem lt, ?_⟩
          rw [e, List.getD_eq_getElem?_getD, List.getElem?_eq_getElem lt]; rfl
        case start => exact ⟨0, Nat.le_refl 0, setR_new_at (Heap.get?_push_of_some _ atS)⟩
        case fin =>
          intro s' c mv hc R
          have eq : s' = { s with heap := s'.heap, toks := s'.toks } := by
            obtain ⟨h', g', d', t', o'⟩ := s'
            cases mv.gens
            cases mv.drawn
            cases mv.os
            rfl
          rw [len] at hc
          refine wpAny_pure ?_
          show wpAny _ _ (ret Value.none) _ _ _
          refine wpAny_pure ⟨rfl, s'.heap, s'.toks, c, eq, R, hc, fun b o e => ?_⟩
          have lb := Heap.lt_size e
          refine mv.heap b o (fun z => ?_) (Heap.get?_push_of_some _ (Heap.get?_push_of_some _ e))
          rcases List.mem_cons.mp z with z | z
          · exact Nat.ne_of_lt lb z
          · have := List.mem_singleton.mp z
            rw [sz] at this
            exact Nat.ne_of_lt (Nat.lt_succ_of_lt lb) this
      · cases r₂ with
        | error e => exact hr₂
        | ok f2 =>
          cases f2 with
          | ret r =>
            obtain ⟨rfl, h', tk, c, rfl, hS, hc, hk⟩ := hr₂
            repeat (any_goals (first | assumption | wp_step))
            exact q _ _ _ hS hc hk
          | _ => exact hr₂.elim
    | _ => exact hr.elim
end
end Sx


/-! KW: set(xs) of ints, sorted(set), list(d.values()), seen.add(t). -/
namespace Sx
open PySem PySem.Spec PyProof.Rows L2
/-- a set of ints that can be gone through -/
def SetJ (w : World) (a : Addr) (S : Int → Bool) (n : Nat) : HO := .ext fun h => SetR w h a S n
theorem setJ_ok {P : Program} {w : World} {H : Hp} {h : Heap} {a : Addr} {S : Int → Bool} {n : Nat} (R : SetR w h a S n) : ObjOk P w H h a (SetJ w a S n) := by
  have ⟨o, _, _, _, ho, _⟩ := R
  exact ⟨R, ⟨o, ho⟩, fun h1 h2 p kp => p.at kp⟩
section
variable {X : Cx}
theorem ints_vals : ∀ {ns : List Int} {us : List Value}, Vals (ns.map V.int) us → IntsAre us ns
  | [], _, .nil => .nil
  | n :: k, _, .cons r t => by
    obtain ⟨tk, rfl⟩ := r
    exact .cons n tk (ints_vals t)
/-- set(xs) -/
def rSetJ (K : PySem.W.Frag) (w : World) : List V → Hp → VK → Prop := fun xs H Q => ∃ (l : Addr) (ns : List Int), xs = [.ref l] ∧ SqL K H l (ns.map V.int) ∧ ns.length < 4000 ∧ ∀ a n, H a = none → n ≤ ns.length → Q (.ref a) (upd H a (SetJ w a (fun j => decide (j ∈ ns)) n))
theorem cr_setJ (hc : X.calm = true) : CallR X (.type "set") (rSetJ X.K X.w) := by
  intro pins s σ H xs us Q I r h
  obtain ⟨l, ns, rfl, hl, few, q⟩ := h
  obtain ⟨its, rv, hL, _⟩ := I.list hl
  rw [Vals.ref1 r]
  refine call_set_I (I.ok.hd hc) hL.isList (by simpa using ints_vals rv) (by show _ < 4096; omega) fun h' tk c R hn hk => ?_
  have fr := I.hok.fresh (Nat.le_refl s.heap.objs.size)
  exact ⟨.ref _, _, I.laid (t' := tk) hk (Nat.le_refl _) (setJ_ok R), rfl, q _ c fr hn⟩
/-- sorted(s) -/
def rSortJ (w : World) : List V → Hp → VK → Prop := fun xs H Q => ∃ (a : Addr) (S : Int → Bool) (n : Nat), xs = [.ref a] ∧ H a = some (SetJ w a S n) ∧ n < 64 ∧ ∀ p (ns : List Int), H p = none → ns.Pairwise (· < ·) → (∀ k, k ∈ ns ↔ S k = true) → ns.length = n → Q (.ref p) (upd H p (.lst (ns.map V.int)))
theorem cr_sortJ (hc : X.calm = true) : CallR X (.builtin "sorted") (rSortJ X.w) := by
  intro pins s σ H xs us Q I r h
  obtain ⟨a, S, n, rfl, ha, few, q⟩ := h
  rw [Vals.ref1 r]
  obtain ⟨R, _⟩ := I.hok a _ ha
  refine sorted_set R (I.ok.hd hc) few fun s' p out c ns k1 g1 o1 hp e1 hi pw mem ln => ?_
  have new := I.hok.fresh hp
  have sq : ObjOk X.prog X.w (upd H p (.lst (ns.map V.int))) s'.heap p (.lst (ns.map V.int)) := by
    refine ⟨by rw [List.length_map, sizeLine_eq]; omega, out.toList, c, vals_ints hi, ?_⟩
    rw [e1]
  refine ⟨.ref p, upd H p (.lst (ns.map V.int)), ?_, rfl, q p ns new pw mem ln⟩
  refine I.call' (ch := []) o1 ⟨fun b o e _ _ _ => k1 b o e, fun b o e _ _ _ => ⟨o.slots, k1 b o e⟩, fun b o e n _ => ?_, fun b o e _ => ⟨o, k1 b o e⟩, fun b xs e => ?_, fun b o u e => ?_, fun b ps e => ⟨#[], ?_⟩⟩ (fun b u e => ?_) (by rw [g1]; exact I.bare) fun b z => nomatch z
  · rw [upd_ne fun z => absurd (Heap.lt_size e) (by rw [z]; exact Nat.not_lt.mpr hp)]; exact n
  · rw [upd_ne (ne_of_none e new)]; exact e
  · rw [upd_ne (ne_of_none e new)]; exact e
  · rw [upd_ne (ne_of_none e new), e, Array.append_empty]
  · by_cases hb : b = p
    · rw [hb, upd_same] at e
      cases e
      rw [hb]; exact sq
    · rw [upd_ne hb] at e
      refine (I.hok b u e).stay (fun d v _ y => k1 d v y) (fun d y => ?_) fun d xs y => ?_
      · rw [upd_ne (ne_of_none y new)]; exact y
      · rw [upd_ne (ne_of_none y new)]; exact y
end
end Sx


namespace Ap
open PySem L2 PySem.Spec PyProof.Rows
theorem sorted_eq : ∀ {l k : List Int}, l.Pairwise (· < ·) → k.Pairwise (· < ·) → (∀ x, x ∈ l ↔ x ∈ k) → l = k
  | [], [], _, _, _ => rfl
  | [], b :: k, _, _, h => nomatch (h b).mpr List.mem_cons_self
  | a :: l, [], _, _, h => nomatch (h a).mp List.mem_cons_self
  | a :: l, b :: k, h1, h2, h => by
    obtain ⟨p1, p2⟩ := List.pairwise_cons.mp h1
    obtain ⟨q1, q2⟩ := List.pairwise_cons.mp h2
    have e : a = b := by
      rcases List.mem_cons.mp ((h a).mp List.mem_cons_self) with z | z
      · exact z
      · rcases List.mem_cons.mp ((h b).mpr List.mem_cons_self) with y | y
        · exact y.symm
        · have := q1 a z
          have := p1 b y
          omega
    subst e
    rw [sorted_eq p2 q2 fun x => ?_]
    constructor
    · intro hx
      rcases List.mem_cons.mp ((h x).mp (List.mem_cons_of_mem _ hx)) with z | z
      · have := p1 x hx
        omega
      · exact z
    · intro hx
      rcases List.mem_cons.mp ((h x).mpr (List.mem_cons_of_mem _ hx)) with z | z
      · have := q1 x hx
        omega
      · exact z
theorem up_sorted (n : Nat) : (up n).Pairwise (· < ·) := by
  unfold up
  exact List.Pairwise.map _ (fun a b h => by omega) List.pairwise_lt_range
theorem roots_of {n : Nat} {ts : List Tie} (h : NetS (up n) ts) (x : Int) : x ∈ rootsOf ts n ↔ x ∈ (up n).map (kin ts) := by
  constructor
  · intro hx
    obtain ⟨a, b⟩ := List.mem_filter.mp hx
    exact List.mem_map.mpr ⟨x, a, of_decide_eq_true b⟩
  · intro hx
    obtain ⟨y, hy, rfl⟩ := List.mem_map.mp hx
    exact List.mem_filter.mpr ⟨kin_in (fun t ht => ⟨(h.mem t ht).1, (h.mem t ht).2.1⟩) hy, decide_eq_true (kin_mk ts y)⟩
/-- 0, 1 .. n -/
def ups (n : Nat) : List Int := (List.range (n + 1)).map fun i => ((i : Nat) : Int)
theorem ups_get {n i : Nat} (h : i ≤ n) : (ups n)[i]? = some (i : Int) := by
  unfold ups
  rw [List.getElem?_map, List.getElem?_range (by omega)]; rfl
theorem ups_drop (n : Nat) : (ups n).drop 1 = up n := by
  unfold ups up
  refine List.ext_getElem? fun i => ?_
  rw [List.getElem?_drop, List.getElem?_map, List.getElem?_map]
  by_cases c : i < n
  · rw [List.getElem?_range (by omega), List.getElem?_range c]
    show some ((1 + i : Nat) : Int) = some (1 + (i : Int))
    congr 1
  · rw [List.getElem?_eq_none (by simp; omega), List.getElem?_eq_none (by simp; omega)]; rfl
theorem rgV_ups (n : Nat) : rgV 0 ((n : Int) + 1) = (ups n).map V.int := by
  unfold rgV ups
  rw [List.map_map, show ((n : Int) + 1 - 0).toNat = n + 1 by omega]
  exact List.map_congr_left fun i _ => by show V.int (0 + (i : Int)) = _; rw [Int.zero_add]; rfl
def marksV (n : Nat) (ts : List Tie) : List V := (ups n).map fun x => V.int (kin ts x)
theorem marksV_at {n : Nat} {ts : List Tie} {x : Int} (h : x ∈ up n) : atI (marksV n ts) x = some (.int (kin ts x)) := by
  have b := up_mem.mp h
  obtain ⟨a, ea⟩ : ∃ a : Nat, x = a := ⟨x.toNat, by omega⟩
  refine atI_of ea ?_
  unfold marksV
  rw [List.getElem?_map, ups_get (by omega), ← ea]; rfl
section
variable {P : Program} {w : World} {K : PySem.W.Frag} {mg : Str → Option Value} {base : Heap}
theorem ok_Lparts (T : Txt K mg base) : FnG P w K mg base CX0 1 T.a_Lparts T.fd_Lparts ["_law_seats", "_law_ties"] spPartsIn := by
  refine fnG_of0 T.F_Lparts sc_Lparts (fun vs H Q E h => ?_) (fun cdv A outer s H vs Q E hcd hr gd h => ?_)
  · obtain ⟨n, ts, v, rfl, _⟩ := h
    rfl
  · obtain ⟨n, ts, v, rfl, n2, hS, hN, q⟩ := h
    obtain ⟨p, xs, rfl, -, hp, hA⟩ := hN.list_inv
    refine ⟨_, (pss_cons (ps_set (i := 2) sc_Lparts.nd rfl (Or.inr rfl) (pe_listRg rfl rfl T.n_list (prg_1 rfl T.n_range (pe_op op_add (pv 0) pe_int))))
    (pss_cons (ps_for PassesOwn.never rfl (pi_list (pv 1)) (pg_lst rfl (pgs_cons (pg_name (i := 3) sc_Lparts.nd rfl (Or.inl rfl)) (pgs_cons (pg_name (i := 4) sc_Lparts.nd rfl (Or.inl rfl)) pgs_nil)))
      (pss_cons (ps_asg (pe_tup (pa_cons (pe_callB (cr_min2 rfl) (by rfl) T.n_min (by decide +kernel) (pa_cons (pe_ix ix_list (pv 2) (pv 3) (fun _ _ => rfl)) (pa_cons (pe_ix ix_list (pv 2) (pv 4) (fun _ _ => rfl)) pa_nil))) (pa_cons (pe_callB (cr_max2 rfl) (by rfl) T.n_max (by decide +kernel) (pa_cons (pe_ix ix_list (pv 2) (pv 3) (fun _ _ => rfl)) (pa_cons (pe_ix ix_list (pv 2) (pv 4) (fun _ _ => rfl)) pa_nil))) pa_nil))) (pg_tup rfl (pgs_cons (pg_name (i := 5) sc_Lparts.nd rfl (Or.inr rfl)) (pgs_cons (pg_name (i := 6) sc_Lparts.nd rfl (Or.inr rfl)) pgs_nil))))
      (pss_one (ps_set (i := 2) sc_Lparts.nd rfl (Or.inr rfl) (pe_lc (own := [("_law_each", 8)]) (g := gName 8) (tt := tYes) rfl sc_Lparts.nd (pi_list (pv 2)) (blkOk_by (N := ["_law_seats", "_law_ties", "_law_mark", "_law_one", "_law_two", "_law_low", "_law_high", "_law_least", "_law_each", "_law_seat"]) (sc := defScope s_Lparts) (by decide +kernel)) (fun _ _ _ _ _ => (pg_name (i := 8) sc_Lparts.nd rfl (Or.inl rfl))) (fun _ _ _ _ _ => pts_nil) (fun _ _ _ _ _ => (pe_ifExp (pt_cmpR op_eq (pv 8) (pv 6) (nomark _)) (pv 5) (pv 8))))))))
    (pss_one (ps_ret (pe_lc (own := [("_law_least", 7)]) (g := gName 7) (tt := tYes) rfl sc_Lparts.nd (pi_list (pe_callB (Sx.cr_sortJ rfl) (by rfl) T.n_sorted (by decide +kernel) (pa_cons (pe_callTy (Sx.cr_setJ rfl) (by rfl) T.n_set (by decide +kernel) (pa_cons (pe_slice sl_list (pv 2) (po_some pe_int) po_none) pa_nil)) pa_nil))) (blkOk_by (N := ["_law_seats", "_law_ties", "_law_mark", "_law_one", "_law_two", "_law_low", "_law_high", "_law_least", "_law_each", "_law_seat"]) (sc := defScope s_Lparts) (by decide +kernel)) (fun _ _ _ _ _ => (pg_name (i := 7) sc_Lparts.nd rfl (Or.inr rfl))) (fun _ _ _ _ _ => pts_nil) (fun _ _ _ _ _ => (pe_lc (own := [("_law_seat", 9)]) (g := gName 9) rfl sc_Lparts.nd (pi_range2 (by rfl) T.n_range (pa_cons pe_int (pa_cons (pe_op op_add (pv 0) pe_int) pa_nil))) (blkOk_in (N := ["_law_seats", "_law_ties", "_law_mark", "_law_one", "_law_two", "_law_low", "_law_high", "_law_least", "_law_each", "_law_seat"]) (sc := defScope s_Lparts) rfl (by decide +kernel)) (fun _ _ _ _ _ => (pg_name (i := 9) sc_Lparts.nd rfl (Or.inl rfl))) (fun _ _ _ _ _ => (pts_one (pt_cmpR op_eq (pe_ix (r := rIxL K) ix_list (pv 2) (pv 9) (fun _ _ => rfl)) (pv 7) (nomark _)))) (fun _ _ _ _ _ => (pv 9))))))))), ?_⟩
    rw [show start ["_law_seats", "_law_ties", "_law_mark", "_law_one", "_law_two", "_law_low", "_law_high", "_law_least", "_law_each", "_law_seat"] [.int n, .ref p] = [some (.int n), some (.ref p), none, none, none, none, none, none, none, none] from rfl]
    walk_at "go"
    rename_i mp0 hmp0
    rw [rgV_ups]
    have lenx : xs.length = ts.length := by rw [hA.length, List.length_map]
    refine g_forL (xs := xs) (fun i σ' H' => ∃ mp x3 x4 x5 x6, σ' = [some (.int n), some (.ref p), some (.ref mp), x3, x4, x5, x6, none, none, none] ∧ Kp [] H H' ∧ H mp = none ∧ H' mp = some (.lst (marksV n (ts.take i))))
      ⟨mp0, _, _, _, _, rfl, (Kp.refl _ _).put hmp0, hmp0, upd_same⟩ (fun i σ' H' _ h => ?_) ?_ ?_
    · obtain ⟨_, _, _, _, _, _, hK, _⟩ := h
      exact SqL.of (hK.lst nin0 hp)
    · rintro i x σ' H' hi ⟨mp, x3, x4, x5, x6, rfl, hK, hmp, hm⟩
      obtain ⟨dd, hdd, hx⟩ := hA.getV hi
      rw [List.getElem?_map] at hdd
      obtain ⟨t, ht, rfl⟩ := Option.map_eq_some_iff.mp hdd
      have hx := hx.keep hK (fun _ _ => nin0) (fun _ h => h)
      obtain ⟨q1, rfl, -, hq⟩ := Da.ints_inv (ns := [t.1, t.2]) hx
      have hq : H' q1 = some (.lst [.int t.1, .int t.2]) := hq
      obtain ⟨m1, m2, ne⟩ := hS.mem t (List.mem_of_getElem? ht)
      have at1 := marksV_at (ts := ts.take i) m1
      have at2 := marksV_at (ts := ts.take i) m2
      walk_at "go"
      rename_i T1 hT1
      rw [show (if kin (ts.take i) t.2 < kin (ts.take i) t.1 then kin (ts.take i) t.2 else kin (ts.take i) t.1) = min (kin (ts.take i) t.1) (kin (ts.take i) t.2) by split <;> omega]
      rw [show (if kin (ts.take i) t.2 > kin (ts.take i) t.1 then kin (ts.take i) t.2 else kin (ts.take i) t.1) = max (kin (ts.take i) t.1) (kin (ts.take i) t.2) by split <;> omega]
      have hm1 : (upd H' T1 (.tup [.int (min (kin (ts.take i) t.1) (kin (ts.take i) t.2)), .int (max (kin (ts.take i) t.1) (kin (ts.take i) t.2))])) mp = some (.lst (marksV n (ts.take i))) := by rw [upd_ne (ne_of_none hm hT1)]; exact hm
      have hK1 := hK.put (o := .tup [.int (min (kin (ts.take i) t.1) (kin (ts.take i) t.2)), .int (max (kin (ts.take i) t.1) (kin (ts.take i) t.2))]) (hK.free hT1)
      generalize upd H' T1 _ = G0 at hm1 hK1 ⊢
      have step : ∀ z, kin (ts.take (i + 1)) z = if kin (ts.take i) z = max (kin (ts.take i) t.1) (kin (ts.take i) t.2) then min (kin (ts.take i) t.1) (kin (ts.take i) t.2) else kin (ts.take i) z := fun z => by
        rw [List.take_add_one, ht]
        show kin (ts.take i ++ [t]) z = _
        rw [kin_snoc]; rfl
      refine g_lc (walk_list (xs := marksV n (ts.take i))) (w0 := [some (.int n), some (.ref p), some (.ref mp), some (.int t.1), some (.int t.2), some (.int (min (kin (ts.take i) t.1) (kin (ts.take i) t.2))), some (.int (max (kin (ts.take i) t.1) (kin (ts.take i) t.2))), none, none, none]) rfl fun D hD =>
        ⟨fun j G => G D = some (.lst ((marksV n (ts.take (i + 1))).take j)) ∧ G mp = some (.lst (marksV n (ts.take i))) ∧ Kp [] H G, ⟨upd_same, by rw [upd_ne (ne_of_none hm1 hD)]; exact hm1, hK1.put (hK1.free hD)⟩, fun j G _ h => SqL.of h.2.1, ?_, ?_⟩
      · rintro j x G G' hj ⟨hl, hm2, hK2⟩ ⟨rfl, hx2⟩
        unfold marksV at hx2
        rw [List.getElem?_map] at hx2
        obtain ⟨z, hz, rfl⟩ := Option.map_eq_some_iff.mp hx2
        have small : ((marksV n (ts.take (i + 1))).take j).length < sizeLine := triv_szl (by
          rw [List.length_take]
          unfold marksV ups
          simp
          omega)
        have nextE : (marksV n (ts.take (i + 1))).take (j + 1) = (marksV n (ts.take (i + 1))).take j ++ [.int (kin (ts.take (i + 1)) z)] := by
          rw [List.take_add_one]
          unfold marksV
          rw [List.getElem?_map, hz]; rfl
        have Dm : mp ≠ D := ne_of_none hm1 hD
        walk_at "go"
        refine g_kLg rfl ?_
        walk_at "go"
        refine g_kD (fun c => ?_) (fun c => ?_)
        · walk_at "go"
          refine g_kLe hl small ⟨?_, by rw [upd_ne Dm]; exact hm2, hK2.put (hK1.free hD)⟩
          rw [nextE, step, if_pos c]; exact upd_same
        · walk_at "go"
          refine g_kLe hl small ⟨?_, by rw [upd_ne Dm]; exact hm2, hK2.put (hK1.free hD)⟩
          rw [nextE, step, if_neg c]; exact upd_same
      · rintro G ⟨hl, hm2, hK2⟩
        rw [List.take_of_length_le (by unfold marksV; simp)] at hl
        walk_at "go"
        exact ⟨D, _, _, _, _, rfl, hK2, hK1.free hD, hl⟩
    · rintro σ' H' ⟨mp, x3, x4, x5, x6, rfl, hK, hmp, hm⟩
      rw [lenx, List.take_of_length_le (Nat.le_refl _)] at hm
      walk_at "go"
      rename_i sl hsl
      have ecut : cutV (marksV n ts) (some 1) none = ((up n).map (kin ts)).map V.int := by
        rw [cut_from (i := 1) (k := 1) rfl]
        unfold marksV
        rw [← List.map_drop, ups_drop, List.map_map]; rfl
      rw [ecut]
      have hK1 := hK.put (o := .lst (((up n).map (kin ts)).map V.int)) (hK.free hsl)
      have hm1 : (upd H' sl (.lst (((up n).map (kin ts)).map V.int))) mp = some (.lst (marksV n ts)) := by rw [upd_ne (ne_of_none hm hsl)]; exact hm
      have hs1 : (upd H' sl (.lst (((up n).map (kin ts)).map V.int))) sl = some (.lst (((up n).map (kin ts)).map V.int)) := upd_same
      generalize upd H' sl _ = G0 at hK1 hm1 hs1 ⊢
      refine ⟨sl, (up n).map (kin ts), rfl, SqL.of hs1, by rw [List.length_map, up_length]; omega, fun S k hS0 hk => ?_⟩
      rw [List.length_map, up_length] at hk
      have hK2 := hK1.put (o := Sx.SetJ w S (fun j => decide (j ∈ (up n).map (kin ts))) k) (hK1.free hS0)
      have hm2 : (upd G0 S (Sx.SetJ w S (fun j => decide (j ∈ (up n).map (kin ts))) k)) mp = some (.lst (marksV n ts)) := by rw [upd_ne (ne_of_none hm1 hS0)]; exact hm1
      have hS2 : (upd G0 S (Sx.SetJ w S (fun j => decide (j ∈ (up n).map (kin ts))) k)) S = some (Sx.SetJ w S (fun j => decide (j ∈ (up n).map (kin ts))) k) := upd_same
      walk_at "go"
      refine ⟨S, _, k, rfl, hS2, by omega, fun r ns hr0 pw hmem _ => ?_⟩
      have ens : ns = rootsOf ts n := sorted_eq pw ((up_sorted n).filter _) fun x => by rw [hmem x, decide_eq_true_eq, roots_of hS]
      rw [ens]
      have hK3 := hK2.put (o := .lst ((rootsOf ts n).map V.int)) (hK2.free hr0)
      have hm3 : (upd (upd G0 S (Sx.SetJ w S (fun j => decide (j ∈ (up n).map (kin ts))) k)) r (.lst ((rootsOf ts n).map V.int))) mp = some (.lst (marksV n ts)) := by rw [upd_ne (ne_of_none hm2 hr0)]; exact hm2
      have hr3 : (upd (upd G0 S (Sx.SetJ w S (fun j => decide (j ∈ (up n).map (kin ts))) k)) r (.lst ((rootsOf ts n).map V.int))) r = some (.lst ((rootsOf ts n).map V.int)) := upd_same
      have hlen : ∀ {p : Int → Bool}, ((up n).filter p).length ≤ 40 := fun {p} => Nat.le_trans (List.length_filter_le _ _) (by rw [up_length]; exact n2)
      walk_at "go"
      refine g_lc (walk_list (xs := (rootsOf ts n).map V.int)) (w0 := [some (.int n), some (.ref p), some (.ref mp), x3, x4, x5, x6, none, none, none]) rfl fun D hD =>
        ⟨fun j G => ∃ ls : List V, G D = some (.lst ls) ∧ G mp = some (.lst (marksV n ts)) ∧ G r = some (.lst ((rootsOf ts n).map V.int)) ∧ Kp [] H G ∧ DaAll (fun b => H b = none ∧ b ≠ D) G ls ((((rootsOf ts n).take j).map (partOf ts n)).map intsD),
          ⟨[], upd_same, by rw [upd_ne (ne_of_none hm3 hD)]; exact hm3, by rw [upd_ne (ne_of_none hr3 hD)]; exact hr3, hK3.put (hK3.free hD), .nil⟩, fun j G _ h => ?_, ?_, ?_⟩
      · obtain ⟨_, _, _, h, _⟩ := h
        exact SqL.of h
      · rintro j x G G' hj ⟨ls, hl, hm4, hr4, hK4, hls⟩ ⟨rfl, hx2⟩
        rw [List.getElem?_map] at hx2
        obtain ⟨z, hz, rfl⟩ := Option.map_eq_some_iff.mp hx2
        have HD : H D = none := hK3.free hD
        have Dm : mp ≠ D := ne_of_none hm3 hD
        have Dr : r ≠ D := ne_of_none hr3 hD
        walk_at "go"
        refine g_kLg rfl ?_
        walk_at "go"
        rw [show ((n : Int) + 1 - 1).toNat = n by omega]
        refine g_lc walk_range (w0 := [some (.int n), some (.ref p), some (.ref mp), x3, x4, x5, x6, some (.int z), none, none]) rfl fun D2 hD2 =>
          ⟨fun l G => G D2 = some (.lst ((partOf ts l z).map V.int)) ∧ G mp = some (.lst (marksV n ts)) ∧ G D = some (.lst ls) ∧ G r = some (.lst ((rootsOf ts n).map V.int)) ∧ Kp [] H G ∧ DaAll (fun b => H b = none ∧ b ≠ D ∧ b ≠ D2) G ls ((((rootsOf ts n).take j).map (partOf ts n)).map intsD),
            ⟨upd_same, by rw [upd_ne (ne_of_none hm4 hD2)]; exact hm4, by rw [upd_ne (ne_of_none hl hD2)]; exact hl, by rw [upd_ne (ne_of_none hr4 hD2)]; exact hr4, hK4.put (hK4.free hD2), ?_⟩, fun _ _ _ _ => trivial, ?_, ?_⟩
        · exact (hls.fresh hD2).imp fun b hb => ⟨hb.1.1, hb.1.2, hb.2⟩
        · rintro l x G1 G2 hl2 ⟨hp1, hm5, hd5, hr5, hK5, hls5⟩ ⟨rfl, rfl⟩
          have D2D : D2 ≠ D := fun c => by rw [c, hl] at hD2; cases hD2
          have D2m : mp ≠ D2 := ne_of_none hm4 hD2
          have D2r : r ≠ D2 := ne_of_none hr4 hD2
          have HD2 : H D2 = none := hK4.free hD2
          have e1 : (1 : Int) + (l : Int) = (l : Int) + 1 := Int.add_comm _ _
          have sin : (1 + (l : Int)) ∈ up n := up_mem.mpr ⟨by omega, by omega⟩
          have at1 := marksV_at (ts := ts) sin
          have ps : partOf ts (l + 1) z = partOf ts l z ++ (if kin ts (1 + (l : Int)) = z then [1 + (l : Int)] else []) := by
            unfold partOf
            rw [up_succ, List.filter_append, e1]
            congr 1
            by_cases c : kin ts ((l : Int) + 1) = z
            · rw [if_pos c, List.filter_cons, if_pos (decide_eq_true c)]; rfl
            · rw [if_neg c, List.filter_cons, if_neg (by simpa using c)]; rfl
          have small : ((partOf ts l z).map V.int).length < sizeLine := triv_szl (by
            rw [List.length_map]
            have : (partOf ts l z).length ≤ l := Nat.le_trans (List.length_filter_le _ _) (Nat.le_of_eq (up_length l))
            omega)
          walk_at "go"
          refine g_kLg rfl ?_
          walk_at "go"
          refine g_kD (fun c => ?_) (fun c => ?_)
          · walk_at "go"
            refine g_kLe hp1 small ⟨?_, by rw [upd_ne D2m]; exact hm5, by rw [upd_ne (Ne.symm D2D)]; exact hd5, by rw [upd_ne D2r]; exact hr5, hK5.put HD2, hls5.other fun b hb => hb.2.2⟩
            rw [upd_same, ps, if_pos c, List.map_append]; rfl
          · refine ⟨?_, hm5, hd5, hr5, hK5, hls5⟩
            rw [ps, if_neg c, List.append_nil]; exact hp1
        · rintro G1 ⟨hp1, hm5, hd5, hr5, hK5, hls5⟩
          have D2D : D2 ≠ D := fun c => by rw [c, hl] at hD2; cases hD2
          have HD2 : H D2 = none := hK4.free hD2
          have jl : j < (rootsOf ts n).length := (List.getElem?_eq_some_iff.mp hz).1
          have lsl : ls.length = j := by
            rw [hls.length, List.length_map, List.length_map, List.length_take]
            omega
          refine g_kLe hd5 (triv_szl (by have := hlen (p := fun r => kin ts r = r); rw [lsl]; unfold rootsOf at jl; omega)) ⟨ls ++ [.ref D2], upd_same, by rw [upd_ne Dm]; exact hm5, by rw [upd_ne Dr]; exact hr5, hK5.put HD, ?_⟩
          rw [List.take_add_one, hz, List.map_append, List.map_append]
          have e9 : DaAll (fun b => H b = none ∧ b ≠ D) (upd G1 D (.lst (ls ++ [.ref D2]))) ls ((((rootsOf ts n).take j).map (partOf ts n)).map intsD) := (hls5.other (p := D) fun b hb => hb.2.1).imp fun b hb => ⟨hb.1, hb.2.1⟩
          exact e9.append (.cons (.lst ⟨HD2, D2D⟩ (by rw [upd_ne D2D]; exact hp1) (DaAll.ints _)) .nil)
      · rintro G ⟨ls, hl, hm4, hr4, hK4, hls⟩
        rw [List.length_map, List.take_of_length_le (Nat.le_refl _)] at hls
        walk_at "go"
        exact q D G hK4 (.lst (hK3.free hD) hl (hls.keep (Kp.refl [] _) (fun _ _ => nin0) fun b hb => hb.1))
end
end Ap


namespace Ap
open PySem L2 PySem.Spec PyProof.Rows
def spRight (tb : List Addr) : Sp := fun vs H Q _ => ∃ (n : Nat) (ts : List Tie) (v : V), vs = [.int n, v] ∧ 3 ≤ n ∧ n ≤ 40 ∧ NetS (up n) ts ∧ Nt H v ts ∧ Tabs tb H ∧ ∀ H', Kp [] H H' → Q (.bl true) H'
/-- what stands while a net is looked at -/
structure RHere (H : Hp) (n : Nat) (ts : List Tie) (due : Addr) (H' : Hp) : Prop where
  kp : Kp [] H H'
  due : Da (fun b => H b = none) H' (.ref due) (listsD (partsOf n ts))
theorem parts_pos {n : Nat} {ts : List Tie} (hn : 1 ≤ n) (hS : NetS (up n) ts) : 1 ≤ (partsOf n ts).length := by
  unfold partsOf
  rw [List.length_map]
  have in1 : (1 : Int) ∈ up n := up_mem.mpr ⟨by omega, by omega⟩
  have a := up_mem.mp (kin_in (fun t ht => ⟨(hS.mem t ht).1, (hS.mem t ht).2.1⟩) in1)
  have b := kin_le ts 1
  exact List.length_pos_of_mem (List.mem_filter.mpr ⟨in1, decide_eq_true (show kin ts 1 = 1 by omega)⟩)
theorem ne_same {x : Str} : (!decide (x = x)) = false := by rw [decide_eq_true rfl]; rfl
/-- what is told of the parts, twice, and what is due -/
structure QHere (H H1 : Hp) (n : Nat) (ts : List Tie) (due tl q1 q2 : Addr) (G : Hp) : Prop where
  kp : Kp [] H G
  due : Da (fun b => H1 b ≠ none) G (.ref due) (listsD (partsOf n ts))
  told : G tl = some (.lst [.ref q1, .ref q2])
  d1 : Da (fun b => H1 b = none ∧ b ≠ tl) G (.ref q1) (listsD (partsOf n ts))
  d2 : Da (fun b => H1 b = none ∧ b ≠ tl) G (.ref q2) (listsD (partsOf n ts))
theorem QHere.keep {H H1 : Hp} {n : Nat} {ts : List Tie} {due tl q1 q2 : Addr} {G G' : Hp} (h : QHere H H1 n ts due tl q1 q2 G) (k : Kp [] G G') : QHere H H1 n ts due tl q1 q2 G' :=
  ⟨h.kp.trans k, h.due.keep k (fun _ _ => nin0) fun _ h => h, k.lst nin0 h.told, h.d1.keep k (fun _ _ => nin0) fun _ h => h, h.d2.keep k (fun _ _ => nin0) fun _ h => h⟩
/-- the i-th tie, as it stands -/
theorem Nt.tie {H H' : Hp} {p : Addr} {ts : List Tie} {xs : List V} {i : Nat} {x : V} (h : Nt H (.ref p) ts) (hp : H p = some (.lst xs)) (k : Kp [] H H') (hx : xs[i]? = some x) : ∃ t q, ts[i]? = some t ∧ x = .ref q ∧ H' q = some (.lst [.int t.1, .int t.2]) := by
  obtain ⟨p', xs', e, -, hp', hA⟩ := h.list_inv
  cases e
  rw [hp] at hp'
  cases hp'
  obtain ⟨dd, hdd, hx⟩ := hA.getV hx
  rw [List.getElem?_map] at hdd
  obtain ⟨t, ht, rfl⟩ := Option.map_eq_some_iff.mp hdd
  obtain ⟨q1, rfl, -, hq⟩ := Da.ints_inv (ns := [t.1, t.2]) (hx.keep k (fun _ _ => nin0) fun _ h => h)
  exact ⟨t, q1, ht, rfl, hq⟩
section
variable {P : Program} {w : World} {K : PySem.W.Frag} {mg : Str → Option Value} {base : Heap}
theorem ok_Lright (T : Txt K mg base) : FnG P w K mg base CX0 7 T.a_Lright T.fd_Lright ["_law_seats", "_law_ties"] (spRight T.tbs) := by
  refine fnG_of0 T.F_Lright sc_Lright (fun vs H Q E h => ?_) (fun cdv A outer s H vs Q E hcd hr gd h => ?_)
  · obtain ⟨n, ts, v, rfl, _⟩ := h
    rfl
  · obtain ⟨n, ts, v, rfl, n1, n2, hS, hN, hT, q⟩ := h
    obtain ⟨p, xs, rfl, hp, hx⟩ := hN.len
    have few := hS.few n2
    refine ⟨_, (pss_cons (ps_set (i := 2) sc_Lright.nd rfl (Or.inl rfl) (pe_callB (cr_repr hr gd) (by rfl) T.n_repr (by decide +kernel) (pa_cons (pv 1) pa_nil)))
    (pss_cons (ps_set (i := 3) sc_Lright.nd rfl (Or.inl rfl) (pe_callG (ok_Lparts T) (hr.mono (by decide)) gd rfl T.m_Lparts T.F_Lparts.kp T.b_Lparts .nil pass0 (pa_cons (pv 0) (pa_cons (pv 1) pa_nil))))
    (pss_cons (ps_set (i := 4) sc_Lright.nd rfl (Or.inl rfl) (pe_cmpR op_eq (pe_op op_add (pe_callB cr_len (by rfl) T.n_len (by decide +kernel) (pa_cons (pv 1) pa_nil)) (pe_callB cr_len (by rfl) T.n_len (by decide +kernel) (pa_cons (pv 3) pa_nil))) (pv 0) (nomark _)))
    (Evl.pss_cut (ps_set (i := 5) sc_Lright.nd rfl (Or.inl rfl) (pe_callB (cr_max rfl) (by rfl) T.n_max (by decide +kernel) (pa_cons (pe_lc (own := [("_law_seat", 9)]) (g := gName 9) (tt := tYes) rfl sc_Lright.nd (pi_range2 (by rfl) T.n_range (pa_cons pe_int (pa_cons (pe_op op_add (pv 0) pe_int) pa_nil))) (blkOk_by (N := ["_law_seats", "_law_ties", "_law_before", "_law_due", "_law_wood", "_law_most", "_law_row", "_law_told", "_law_part", "_law_seat", "_law_pair"]) (sc := defScope s_Lright) (by decide +kernel)) (fun _ _ _ _ _ => (pg_name (i := 9) sc_Lright.nd rfl (Or.inr rfl))) (fun _ _ _ _ _ => pts_nil) (fun _ _ _ _ _ => (pe_callB (r := rLn K) cr_len (by rfl) T.n_len (by decide +kernel) (pa_cons (pe_lc (own := [("_law_pair", 10)]) (g := gName 10) rfl sc_Lright.nd (show PI _ _ _ (iList K _) from pi_list (pv 1)) (blkOk_in (N := ["_law_seats", "_law_ties", "_law_before", "_law_due", "_law_wood", "_law_most", "_law_row", "_law_told", "_law_part", "_law_seat", "_law_pair"]) (sc := defScope s_Lright) rfl (by decide +kernel)) (fun _ _ _ _ _ => (pg_name (i := 10) sc_Lright.nd rfl (Or.inl rfl))) (fun _ _ _ _ _ => (pts_one (pt_cmpR (r := rIn K false) op_in_seq (pv 9) (pv 10) (by rfl)))) (fun _ _ _ _ _ => pe_int)) pa_nil)))) pa_nil)))
    (Evl.pss_cut (ps_set (i := 6) sc_Lright.nd rfl (Or.inl rfl) (pe_and (pv 4) (pe_and (pe_cmpR op_eq (pe_callB cr_len (by rfl) T.n_len (by decide +kernel) (pa_cons (pv 3) pa_nil)) pe_int (nomark _)) (pe_one (pe_cmpR op_lt (pv 5) pe_int (nomark _))))))
    (pss_cons (ps_set (i := 7) sc_Lright.nd rfl (Or.inl rfl) (pe_lst (pa_cons (pe_callG (ok_parts T) (hr.mono (by decide)) gd rfl T.m_parts T.F_parts.kp T.b_parts .nil pass0 (pa_cons (pv 0) (pa_cons (pv 1) pa_nil))) (pa_cons (pe_callGK (ok_parts T) (hr.mono (by decide)) gd rfl T.m_parts T.F_parts.kp (kb_sw2 T.F_parts fun _ _ _ _ _ _ _ _ => rfl) pass0 (pk_cons (pv 1) (pk_cons (pv 0) pk_nil))) pa_nil))))
    (pss_cons (ps_if (pt_cmpR op_ne (pe_callB (cr_repr hr gd) (by rfl) T.n_repr (by decide +kernel) (pa_cons (pv 7) pa_nil)) (pe_callB (cr_repr hr gd) (by rfl) T.n_repr (by decide +kernel) (pa_cons (pe_lst (pa_cons (pv 3) (pa_cons (pv 3) pa_nil))) pa_nil)) (nomark _))
      (pss_one (ps_ret pe_bl))
      pss_nil)
    (pss_cons (ps_if (pt_cmpR op_ne (pe_callB (cr_repr hr gd) (by rfl) T.n_repr (by decide +kernel) (pa_cons (pe_lst (pa_cons (pe_callG (ok_is_wood T) (hr.mono (by decide)) gd rfl T.m_is_wood T.F_is_wood.kp T.b_is_wood .nil pass0 (pa_cons (pv 0) (pa_cons (pv 1) pa_nil))) (pa_cons (pe_callGK (ok_is_wood T) (hr.mono (by decide)) gd rfl T.m_is_wood T.F_is_wood.kp (kb_sw2 T.F_is_wood fun _ _ _ _ _ _ _ _ => rfl) pass0 (pk_cons (pv 1) (pk_cons (pv 0) pk_nil))) pa_nil))) pa_nil)) (pe_callB (cr_repr hr gd) (by rfl) T.n_repr (by decide +kernel) (pa_cons (pe_lst (pa_cons (pv 4) (pa_cons (pv 4) pa_nil))) pa_nil)) (nomark _))
      (pss_one (ps_ret pe_bl))
      pss_nil)
    (pss_cons (ps_if (pt_cmpR op_ne (pe_callB (cr_repr hr gd) (by rfl) T.n_repr (by decide +kernel) (pa_cons (pe_lst (pa_cons (pe_callG (ok_is_row T) (hr.mono (by decide)) gd rfl T.m_is_row T.F_is_row.kp T.b_is_row .nil pass0 (pa_cons (pv 0) (pa_cons (pv 1) pa_nil))) (pa_cons (pe_callGK (ok_is_row T) (hr.mono (by decide)) gd rfl T.m_is_row T.F_is_row.kp (kb_sw2 T.F_is_row fun _ _ _ _ _ _ _ _ => rfl) pass0 (pk_cons (pv 1) (pk_cons (pv 0) pk_nil))) pa_nil))) pa_nil)) (pe_callB (cr_repr hr gd) (by rfl) T.n_repr (by decide +kernel) (pa_cons (pe_lst (pa_cons (pv 6) (pa_cons (pv 6) pa_nil))) pa_nil)) (nomark _))
      (pss_one (ps_ret pe_bl))
      pss_nil)
    (Evl.pss_cut (ps_for PassesOwn.never rfl (pi_list (pe_ix ix_list (pv 7) pe_int (fun _ _ => rfl))) (pg_name (i := 8) sc_Lright.nd rfl (Or.inl rfl))
      (pss_one (ps_expr (pe_bm PySem.F.plainAttrs_list PySem.F.slot_list_append PySem.F.type_list_append mt_append (pv 8) (pa_cons pe_non pa_nil)))))
    (pss_cons (ps_expr (pe_bm PySem.F.plainAttrs_list PySem.F.slot_list_append PySem.F.type_list_append mt_append (pe_ix ix_list (pv 7) pe_int (fun _ _ => rfl)) (pa_cons pe_non pa_nil)))
    (pss_one (ps_ret (pe_and (pe_cmpR op_eq (pe_callB (cr_repr hr gd) (by rfl) T.n_repr (by decide +kernel) (pa_cons (pe_callG (ok_parts T) (hr.mono (by decide)) gd rfl T.m_parts T.F_parts.kp T.b_parts .nil pass0 (pa_cons (pv 0) (pa_cons (pv 1) pa_nil))) pa_nil)) (pe_callB (cr_repr hr gd) (by rfl) T.n_repr (by decide +kernel) (pa_cons (pv 3) pa_nil)) (nomark _)) (pe_one (pe_cmpR op_eq (pe_callB (cr_repr hr gd) (by rfl) T.n_repr (by decide +kernel) (pa_cons (pv 1) pa_nil)) (pv 2) (nomark _))))))))))))))))), ?_⟩
    rw [show start ["_law_seats", "_law_ties", "_law_before", "_law_due", "_law_wood", "_law_most", "_law_row", "_law_told", "_law_part", "_law_seat", "_law_pair"] [.int n, .ref p] = [some (.int n), some (.ref p), none, none, none, none, none, none, none, none, none] from rfl]
    walk_at "go"
    refine g_rep hN.dp (Shw.net hS n2 few) (by decide) (by decide) ?_
    walk_at "go"
    refine ⟨n, ts, .ref p, rfl, n2, hS, hN, fun due H1 hK1 hD1 => ?_⟩
    obtain ⟨ds, hds, hdl, -⟩ := hD1.lst_len
    rw [List.length_map] at hdl
    have hp1 := hK1.lst nin0 hp
    walk_at "go"
    rw [hx, hdl]
    refine g_cut (fun σ' H' => ∃ m : Int, σ' = [some (.int n), some (.ref p), some (.str (netD ts).shown), some (.ref due), some (.bl (woodB n ts)), some (.int m), none, none, none, none, none] ∧ RHere H n ts due H' ∧ (∀ k : Nat, k ≤ n → ((nearL ts k).length : Int) ≤ m) ∧ ∃ k : Nat, k ≤ n ∧ ((nearL ts k).length : Int) = m) ?_ ?_
    · walk_at "go"
      rw [show ((n : Int) + 1 - 1).toNat = n by omega]
      refine g_lc walk_range (w0 := [some (.int n), some (.ref p), some (.str (netD ts).shown), some (.ref due), some (.bl (decide ((ts.length : Int) + (partsOf n ts).length = n))), none, none, none, none, none, none]) rfl fun D hD =>
        ⟨fun i G => ∃ ls : List Int, ls.length = i ∧ G D = some (.lst (ls.map V.int)) ∧ Kp [] H1 G ∧ ∀ k : Nat, k < i → ls[k]? = some ((nearL ts ((k : Int) + 1)).length : Int), ⟨[], rfl, upd_same, (Kp.refl _ _).put hD, fun k hk => absurd hk (Nat.not_lt_zero _)⟩, fun _ _ _ _ => trivial, ?_, ?_⟩
      · rintro i x G G' hi ⟨ls, hn, hl, hK, hls⟩ ⟨rfl, rfl⟩
        have hpG := hK.lst nin0 hp1
        walk_at "go"
        refine g_kLg rfl ?_
        walk_at "go"
        refine g_lc (walk_list (xs := xs)) (w0 := [some (.int n), some (.ref p), some (.str (netD ts).shown), some (.ref due), some (.bl (decide ((ts.length : Int) + (partsOf n ts).length = n))), none, none, none, none, some (.int (1 + (i : Int))), none]) rfl fun D2 hD2 =>
          ⟨fun j G2 => G2 D2 = some (.lst (List.replicate (nearL (ts.take j) ((i : Int) + 1)).length (.int 1))) ∧ G2 D = some (.lst (ls.map V.int)) ∧ Kp [] H1 G2, ⟨upd_same, by rw [upd_ne (ne_of_none hl hD2)]; exact hl, hK.put (hK.free hD2)⟩, fun _ _ _ h => SqL.of (h.2.2.lst nin0 hp1), ?_, ?_⟩
        · rintro j x G2 G3 hj ⟨h2, h3, hK2⟩ ⟨rfl, hxj⟩
          obtain ⟨t, q1, ht, rfl, hq⟩ := hN.tie hp (hK1.trans hK2) hxj
          have ne := (hS.mem t (List.mem_of_getElem? ht)).2.2
          have D2D : D2 ≠ D := fun c => by rw [c, hl] at hD2; cases hD2
          have e1 : (1 : Int) + (i : Int) = (i : Int) + 1 := Int.add_comm _ _
          have inE : inV (.int (1 + (i : Int))) [.int t.1, .int t.2] = decide (t.1 = (i : Int) + 1 ∨ t.2 = (i : Int) + 1) := by
            rw [e1]
            simp [inV, eqV]
            rfl
          have st : (nearL (ts.take (j + 1)) ((i : Int) + 1)).length = (nearL (ts.take j) ((i : Int) + 1)).length + (if t.1 = (i : Int) + 1 ∨ t.2 = (i : Int) + 1 then 1 else 0) := by
            rw [List.take_add_one, ht]
            show (nearL (ts.take j ++ [t]) _).length = _
            rw [nearL_snoc, List.length_append]
            congr 1
            by_cases c1 : t.1 = (i : Int) + 1
            · rw [if_pos c1, if_pos (.inl c1)]; rfl
            · rw [if_neg c1]
              by_cases c2 : t.2 = (i : Int) + 1
              · rw [if_pos c2, if_pos (.inr c2)]; rfl
              · rw [if_neg c2, if_neg fun z => z.elim c1 c2]; rfl
          have lenN : (nearL (ts.take j) ((i : Int) + 1)).length ≤ 900 := Nat.le_trans (List.length_filterMap_le _ _) (by rw [List.length_take]; omega)
          walk_at "go"
          refine g_kLg rfl ?_
          walk_at "go"
          rw [inE]
          refine g_kD (fun c => ?_) (fun c => ?_)
          · walk_at "go"
            refine g_kLe h2 (triv_szl (by rw [List.length_replicate]; omega)) ⟨?_, by rw [upd_ne (Ne.symm D2D)]; exact h3, hK2.put (hK.free hD2)⟩
            rw [st, if_pos c, List.replicate_succ']
            exact upd_same
          · refine ⟨?_, h3, hK2⟩
            rw [st, if_neg c]
            exact h2
        · rintro G2 ⟨h2, h3, hK2⟩
          rw [hx, List.take_of_length_le (Nat.le_refl _)] at h2
          walk_at "go"
          rw [List.length_replicate]
          have HD := hD
          refine g_kLe h3 (triv_szl (by rw [List.length_map]; omega)) ⟨ls ++ [((nearL ts ((i : Int) + 1)).length : Int)], by rw [List.length_append, hn]; rfl, by rw [List.map_append]; exact upd_same, hK2.put hD, fun k hk => ?_⟩
          by_cases c : k = i
          · subst c
            rw [List.getElem?_append_right (Nat.le_of_eq hn), hn, Nat.sub_self]; rfl
          · rw [List.getElem?_append_left (by omega)]
            exact hls k (by omega)
      · rintro G ⟨ls, hn, hl, hK, hls⟩
        walk_at "go"
        refine ⟨D, ls, rfl, SqL.of hl, by omega, fun m hm hle => ?_⟩
        walk_at "go"
        refine ⟨m, rfl, ⟨hK1.trans hK, hD1.keep hK (fun _ _ => nin0) fun _ h => h⟩, fun k hk => ?_, ?_⟩
        · cases k with
          | zero => 
            have z : nearL ts ((0 : Nat) : Int) = [] := List.filterMap_eq_nil_iff.mpr fun t ht => by
              obtain ⟨m1, m2, _⟩ := hS.mem t ht
              have := up_mem.mp m1
              have := up_mem.mp m2
              rw [if_neg (by omega), if_neg (by omega)]
            rw [z]
            have := hle _ (List.mem_of_getElem? (hls 0 (by omega)))
            simp
            omega
          | succ k => exact hle _ (List.mem_of_getElem? (hls k (by omega)))
        · obtain ⟨k, hk, rfl⟩ := List.getElem_of_mem hm
          have := hls k (by omega)
          rw [List.getElem?_eq_getElem hk] at this
          exact ⟨k + 1, by omega, (Option.some.inj this).symm⟩
    · rintro σ' H' ⟨m, rfl, hR, hm1, hm2⟩
      clear hds hdl hp1 hD1 hK1 ds H1
      refine g_cut (fun σ' H' => ∃ r : Bool, σ' = [some (.int n), some (.ref p), some (.str (netD ts).shown), some (.ref due), some (.bl (woodB n ts)), some (.int m), some (.bl r), none, none, none, none] ∧ RHere H n ts due H' ∧ (r = true ↔ RowP n ts)) ?_ ?_
      · have one : 1 ≤ (partsOf n ts).length := parts_pos (by omega) hS
        obtain ⟨ds, hds, hdl, -⟩ := hR.due.lst_len
        rw [List.length_map] at hdl
        obtain ⟨k0, k0n, hk0⟩ := hm2
        walk_at "go"
        refine g_kB (fun c => ?_) (fun c => ?_)
        · have c := of_decide_eq_true c
          walk_at "go"
          rw [hdl]
          refine g_kD (fun c2 => ?_) (fun c2 => ?_)
          · walk_at "go"
            refine ⟨_, rfl, hR, fun e => ⟨by omega, by omega, fun k hk => ?_⟩, fun e => decide_eq_true ?_⟩
            · have := hm1 k hk
              have := of_decide_eq_true e
              omega
            · have := e.2.2 k0 k0n
              omega
          · walk_at "go"
            refine ⟨_, rfl, hR, fun e => (nomatch e), fun e => absurd e.1 (by omega)⟩
        · have c := of_decide_eq_false c
          walk_at "go"
          refine ⟨_, rfl, hR, fun e => (nomatch e), fun e => absurd e.2.1 (by have := e.1; omega)⟩
      · clear hR hm1 hm2
        rintro σ' H1 ⟨r, rfl, hR, hrow⟩
        have hN1 := Nt.kp hN hR.kp
        have hT1 := hR.kp.tabs hT
        walk_at "go"
        refine ⟨n, ts, .ref p, rfl, n1, n2, hS, hN1, hT1, fun q1 H2 hK2 hD2 => ?_⟩
        walk_at "go"
        refine ⟨n, ts, .ref p, rfl, n1, n2, hS, Nt.kp hN1 hK2, hK2.tabs hT1, fun q2 H3 hK3 hD3 => ?_⟩
        walk_at "go"
        rename_i tl htl
        have ex1 : Da (fun b => H1 b ≠ none) H1 (.ref due) (listsD (partsOf n ts)) := hR.due.here.imp fun b hb => hb.2
        have hQ : QHere H H1 n ts due tl q1 q2 (upd H3 tl (.lst [.ref q1, .ref q2])) := by
          refine ⟨((hR.kp.trans hK2).trans hK3).put (hR.kp.free (hK2.free (hK3.free htl))), (ex1.keep (hK2.trans hK3) (fun _ _ => nin0) fun _ h => h).fresh htl |>.imp fun b hb => hb.1, upd_same, ?_, ?_⟩
          · exact ((hD2.keep hK3 (fun _ _ => nin0) fun _ h => h).fresh htl)
          · exact ((hD3.imp fun b hb => hK2.free hb).fresh htl)
        have hTl : H1 tl = none := hK2.free (hK3.free htl)
        generalize upd H3 tl (.lst [.ref q1, .ref q2]) = G at hQ ⊢
        clear ex1 hD2 hD3 hK2 hK3 htl H3 H2
        have sp : Shw (listsD (partsOf n ts)) 8000 2 := Shw.parts n2
        refine g_rep (d := .list [listsD (partsOf n ts), listsD (partsOf n ts)]) (.lst (SqL.of hQ.told) (.cons hQ.d1.dp (.cons hQ.d2.dp .nil))) (Shw.two sp sp) (by decide) (by decide) ?_
        walk_at "go"
        rename_i l2 hl2
        have hQ := hQ.keep (Kp.new (o := .lst [.ref due, .ref due]) hl2)
        refine g_rep (d := .list [listsD (partsOf n ts), listsD (partsOf n ts)]) (.lst (SqL.of upd_same) (.cons hQ.due.dp (.cons hQ.due.dp .nil))) (Shw.two sp sp) (by decide) (by decide) ?_
        generalize upd G l2 (.lst [.ref due, .ref due]) = G2 at hQ ⊢
        walk_at "go"
        refine g_kX ne_same ?_
        walk_at "go"
        -- is_wood
        refine ⟨n, ts, .ref p, rfl, n1, n2, hS, Nt.kp hN hQ.kp, hQ.kp.tabs hT, fun G3 hK3 => ?_⟩
        have hQ := hQ.keep hK3
        walk_at "go"
        refine ⟨n, ts, .ref p, rfl, n1, n2, hS, Nt.kp hN hQ.kp, hQ.kp.tabs hT, fun G4 hK4 => ?_⟩
        have hQ := hQ.keep hK4
        walk_at "go"
        rename_i b1 hb1
        have hQ := hQ.keep (Kp.new (o := .lst [.bl (woodB n ts), .bl (woodB n ts)]) hb1)
        have sb : ∀ b : Bool, Shw (.list [.bool b, .bool b]) ((5 + 2) * 2 + 2) 1 := fun b => Shw.two (Shw.bool b) (Shw.bool b)
        refine g_rep (d := .list [.bool (woodB n ts), .bool (woodB n ts)]) (.lst (SqL.of upd_same) (.cons (.bl _) (.cons (.bl _) .nil))) (sb _) (by decide) (by decide) ?_
        generalize upd G4 b1 (.lst [.bl (woodB n ts), .bl (woodB n ts)]) = G5 at hQ ⊢
        walk_at "go"
        rename_i b2 hb2
        have hQ := hQ.keep (Kp.new (o := .lst [.bl (woodB n ts), .bl (woodB n ts)]) hb2)
        refine g_rep (d := .list [.bool (woodB n ts), .bool (woodB n ts)]) (.lst (SqL.of upd_same) (.cons (.bl _) (.cons (.bl _) .nil))) (sb _) (by decide) (by decide) ?_
        generalize upd G5 b2 (.lst [.bl (woodB n ts), .bl (woodB n ts)]) = G6 at hQ ⊢
        walk_at "go"
        refine g_kX ne_same ?_
        walk_at "go"
        -- is_row
        refine ⟨n, ts, .ref p, rfl, n1, n2, hS, Nt.kp hN hQ.kp, hQ.kp.tabs hT, fun r1 G7 hr1 hK7 => ?_⟩
        obtain rfl : r1 = r := by
          rw [← hrow] at hr1
          cases r1 <;> cases r <;> simp_all
        have hQ := hQ.keep hK7
        walk_at "go"
        refine ⟨n, ts, .ref p, rfl, n1, n2, hS, Nt.kp hN hQ.kp, hQ.kp.tabs hT, fun r2 G8 hr2 hK8 => ?_⟩
        obtain rfl : r2 = r1 := by
          rw [← hrow] at hr2
          cases r2 <;> cases r1 <;> simp_all
        have hQ := hQ.keep hK8
        walk_at "go"
        rename_i b3 hb3
        have hQ := hQ.keep (Kp.new (o := .lst [.bl r2, .bl r2]) hb3)
        refine g_rep (d := .list [.bool r2, .bool r2]) (.lst (SqL.of upd_same) (.cons (.bl _) (.cons (.bl _) .nil))) (sb _) (by decide) (by decide) ?_
        generalize upd G8 b3 (.lst [.bl r2, .bl r2]) = G9 at hQ ⊢
        walk_at "go"
        rename_i b4 hb4
        have hQ := hQ.keep (Kp.new (o := .lst [.bl r2, .bl r2]) hb4)
        refine g_rep (d := .list [.bool r2, .bool r2]) (.lst (SqL.of upd_same) (.cons (.bl _) (.cons (.bl _) .nil))) (sb _) (by decide) (by decide) ?_
        generalize upd G9 b4 (.lst [.bl r2, .bl r2]) = GA at hQ ⊢
        walk_at "go"
        refine g_kX ne_same ?_
        walk_at "go"
        obtain ⟨q1', xs1, eq1, ⟨f1, f2⟩, hq1, hA1⟩ := hQ.d1.list_inv
        cases eq1
        have Hof : ∀ {b : Addr}, H1 b = none → H b = none := fun h => hR.kp.free h
        have plen : (partsOf n ts).length ≤ 40 := by
          unfold partsOf
          rw [List.length_map]
          exact Nat.le_trans (List.length_filter_le _ _) (by rw [up_length]; exact n2)
        have lx : xs1.length = (partsOf n ts).length := by rw [hA1.length, List.length_map]
        refine g_cut (fun σ' G' => ∃ x8, σ' = [some (.int n), some (.ref p), some (.str (netD ts).shown), some (.ref due), some (.bl (woodB n ts)), some (.int m), some (.bl r2), some (.ref tl), x8, none, none] ∧ Kp [] H G' ∧ Da (fun b => H1 b ≠ none) G' (.ref due) (listsD (partsOf n ts)) ∧ G' tl = some (.lst [.ref q1, .ref q2]) ∧ G' q1 = some (.lst xs1)) ?_ ?_
        · have htl := hQ.told
          walk_at "go"
          refine g_forL (xs := xs1) (fun j σ' G' => ∃ x8, σ' = [some (.int n), some (.ref p), some (.str (netD ts).shown), some (.ref due), some (.bl (woodB n ts)), some (.int m), some (.bl r2), some (.ref tl), x8, none, none] ∧ Kp [] H G' ∧ Da (fun b => H1 b ≠ none) G' (.ref due) (listsD (partsOf n ts)) ∧ G' tl = some (.lst [.ref q1, .ref q2]) ∧ G' q1 = some (.lst xs1) ∧
              ∀ x ∈ xs1, ∃ pp ys, x = .ref pp ∧ H1 pp = none ∧ pp ≠ tl ∧ pp ≠ q1 ∧ G' pp = some (.lst ys) ∧ ys.length ≤ 40 + j)
            ⟨_, rfl, hQ.kp, hQ.due, hQ.told, hq1, fun x hx => ?_⟩ (fun j σ' G' _ h => ?_) ?_ ?_
          · obtain ⟨k, hk, rfl⟩ := List.getElem_of_mem hx
            obtain ⟨d, hd, hD⟩ := hA1.getV (List.getElem?_eq_getElem hk)
            rw [List.getElem?_map] at hd
            obtain ⟨l, hl, rfl⟩ := Option.map_eq_some_iff.mp hd
            obtain ⟨pp, ep, ⟨g1, g2⟩, hpp⟩ := Da.ints_inv hD
            refine ⟨pp, _, ep, g1, g2, fun z => ?_, hpp, ?_⟩
            · rw [z, hq1] at hpp
              have e2 : xs1 = l.map V.int := by cases hpp; rfl
              have e3 : xs1[k]? = some (.ref pp) := by rw [List.getElem?_eq_getElem hk, ep]
              rw [e2, List.getElem?_map] at e3
              obtain ⟨_, _, z⟩ := Option.map_eq_some_iff.mp e3
              cases z
            · obtain ⟨r0, _, rfl⟩ := List.mem_map.mp (List.mem_of_getElem? hl)
              rw [List.length_map]
              exact Nat.le_trans (List.length_filter_le _ _) (by rw [up_length]; omega)
          · obtain ⟨_, _, _, _, _, h, _⟩ := h
            exact SqL.of h
          · rintro j x σ' G' hj ⟨x8, rfl, hK, hD, ht, hq, hall⟩
            obtain ⟨pp, ys, rfl, g1, g2, g3, g4, g5⟩ := hall x (List.mem_of_getElem? hj)
            have jl := (List.getElem?_eq_some_iff.mp hj).1
            walk_at "go"
            refine g_append g4 (triv_szl (by omega)) ?_
            walk_at "go"
            refine ⟨_, rfl, hK.put (Hof g1), hD.other fun b hb z => hb (by rw [z]; exact g1), by rw [upd_ne (Ne.symm g2)]; exact ht, by rw [upd_ne (Ne.symm g3)]; exact hq, fun x hx => ?_⟩
            obtain ⟨p2, y2, e2, k1, k2, k3, k4, k5⟩ := hall x hx
            by_cases c : p2 = pp
            · subst c
              exact ⟨p2, _, e2, k1, k2, k3, upd_same, by rw [List.length_append, List.length_singleton]; omega⟩
            · exact ⟨p2, y2, e2, k1, k2, k3, by rw [upd_ne c]; exact k4, by omega⟩
          · rintro σ' G' ⟨x8, rfl, hK, hD, ht, hq, _⟩
            exact ⟨_, rfl, hK, hD, ht, hq⟩
        · clear hQ
          rintro σ' G' ⟨x8, rfl, hK, hD, ht, hq⟩
          walk_at "go"
          refine g_append hq (triv_szl (by omega)) ?_
          have hK2 := hK.put (o := .lst (xs1 ++ [.non])) (Hof f1)
          have hD2 := hD.other (p := q1) (o := .lst (xs1 ++ [.non])) fun b hb z => hb (by rw [z]; exact f1)
          generalize upd G' q1 (.lst (xs1 ++ [.non])) = G2 at hK2 hD2 ⊢
          walk_at "go"
          refine ⟨n, ts, .ref p, rfl, n1, n2, hS, Nt.kp hN hK2, hK2.tabs hT, fun q3 G3 hK3 hD3 => ?_⟩
          walk_at "go"
          refine g_rep hD3.dp sp (by decide) (by decide) ?_
          walk_at "go"
          refine g_rep (hD2.keep hK3 (fun _ _ => nin0) fun _ h => h).dp sp (by decide) (by decide) ?_
          walk_at "go"
          refine g_kY (decide_eq_true rfl) ?_
          walk_at "go"
          refine g_rep (Nt.kp hN (hK2.trans hK3)).dp (Shw.net hS n2 few) (by decide) (by decide) ?_
          walk_at "go"
          rw [decide_eq_true rfl]
          exact q _ (hK2.trans hK3)
end
end Ap


namespace Ap
open PySem L2
/-- a drawer stands at a: some number, some count up to m, some flag -/
def Draws (a : Addr) (m : Nat) (H : Hp) : Prop := ∃ (c k : Int) (b : Bool), H a = some (.lst [.int c, .int k, .bl b]) ∧ 0 ≤ c ∧ 0 ≤ k ∧ k ≤ m
theorem Draws.mono {a : Addr} {m m' : Nat} {H : Hp} (h : Draws a m H) (l : m ≤ m') : Draws a m' H := by
  obtain ⟨c, k, b, e, h1, h2, h3⟩ := h
  exact ⟨c, k, b, e, h1, h2, by omega⟩
theorem Draws.ne {a : Addr} {m : Nat} {H : Hp} (h : Draws a m H) : H a ≠ none := by
  obtain ⟨c, k, b, e, _⟩ := h
  rw [e]; exact fun z => nomatch z
theorem Draws.put {a p : Addr} {m : Nat} {H : Hp} {o : HO} (h : Draws a m H) (n : a ≠ p) : Draws a m (upd H p o) := by
  obtain ⟨c, k, b, e, h1⟩ := h
  exact ⟨c, k, b, by rw [upd_ne n]; exact e, h1⟩
theorem Draws.new {a p : Addr} {m : Nat} {H : Hp} {o : HO} (h : Draws a m H) (n : H p = none) : Draws a m (upd H p o) := h.put fun z => h.ne (z ▸ n)
def spNext : Sp := fun vs H Q _ => ∃ (a : Addr) (m : Nat), vs = [.ref a] ∧ Draws a m H ∧ m < 2 ^ 40 ∧ ∀ (r : Int) (H' : Hp), 0 ≤ r → r < 2 ^ 31 → Kp [a] H H' → Draws a (m + 1) H' → Q (.int r) H'
section
variable {P : Program} {w : World} {K : PySem.W.Frag} {mg : Str → Option Value} {base : Heap}
theorem ok_Lnext (T : Txt K mg base) : FnG P w K mg base CX0 1 T.a_Lnext T.fd_Lnext ["_law_draws_here"] spNext := by
  refine fnG_of0 T.F_Lnext sc_Lnext (fun vs H Q E h => ?_) (fun cdv A outer s H vs Q E hcd hr gd h => ?_)
  · obtain ⟨a, m, rfl, _⟩ := h
    rfl
  · obtain ⟨a, m, rfl, ⟨c, k, b, ha, hc, hk, hm⟩, hm2, q⟩ := h
    refine ⟨_, (pss_cons (ps_asg (pe_op op_add (pe_ix ix_list (pv 0) pe_int (fun _ _ => rfl)) pe_int) (pg_sub (pv 0) pe_int set_list))
    (pss_cons (ps_set (i := 1) sc_Lnext.nd rfl (Or.inl rfl) (pe_ix ix_list (pv 0) pe_int (fun _ _ => rfl)))
    (pss_cons (ps_if (pt_val (pe_ix ix_list (pv 0) pe_int (fun _ _ => rfl)))
      (pss_cons (ps_set (i := 2) sc_Lnext.nd rfl (Or.inl rfl) (pe_op op_mod (pe_callTy cr_int (by rfl) T.n_int (by decide +kernel) (pa_cons (pe_ix ix_list (pv 0) pe_int (fun _ _ => rfl)) pa_nil)) (pe_op op_powG pe_int pe_int)))
      (pss_cons (ps_asg (pe_op op_fdiv (pe_ix ix_list (pv 0) pe_int (fun _ _ => rfl)) (pe_op op_powG pe_int pe_int)) (pg_sub (pv 0) pe_int set_list))
      (pss_one (ps_ret (pv 2)))))
      pss_nil)
    (pss_cons (ps_set (i := 2) sc_Lnext.nd rfl (Or.inl rfl) (pe_op op_mod (pe_callTy cr_int (by rfl) T.n_int (by decide +kernel) (pa_cons (pe_op op_mul (pe_op op_add (pe_op op_add (pe_op op_mod (pe_callTy cr_int (by rfl) T.n_int (by decide +kernel) (pa_cons (pe_ix ix_list (pv 0) pe_int (fun _ _ => rfl)) pa_nil)) pe_int) (pe_op op_mul (pe_op op_mul (pv 1) (pv 1)) pe_int)) (pv 1)) pe_int) pa_nil)) pe_int))
    (pss_cons (ps_set (i := 2) sc_Lnext.nd rfl (Or.inl rfl) (pe_op op_mod (pe_callTy cr_int (by rfl) T.n_int (by decide +kernel) (pa_cons (pe_op op_mul (pv 2) (pv 2)) pa_nil)) pe_int))
    (pss_one (ps_ret (pe_op op_fdiv (pe_op op_mod (pe_callTy cr_int (by rfl) T.n_int (by decide +kernel) (pa_cons (pe_op op_mul (pv 2) (pe_op op_add (pv 2) pe_int)) pa_nil)) pe_int) pe_int)))))))), ?_⟩
    rw [show start ["_law_draws_here", "_law_k", "_law_number"] [V.ref a] = [some (.ref a), none, none] from rfl]
    walk_at "go"
    have e6 : (10 : Int) ^ Int.toNat 6 = 1000000 := rfl
    refine g_kB (fun e => ?_) (fun e => ?_)
    · walk_at "go"
      rw [e6]
      refine q _ _ (by omega) (by omega) ((((Kp.refl _ _).mut (List.mem_singleton.mpr rfl) ha (ntb rfl))).mut (List.mem_singleton.mpr rfl) ha (ntb rfl)) ⟨_, _, _, upd_same, by omega, by omega, by omega⟩
    · walk_at "go"
      refine q _ _ (by omega) (by omega) (((Kp.refl _ _).mut (List.mem_singleton.mpr rfl) ha (ntb rfl))) ⟨_, _, _, upd_same, by omega, by omega, by omega⟩
end
end Ap


namespace Ap
open PySem L2 PySem.Spec PyProof.Rows
def spDraws : Sp := fun vs H Q _ => ∃ c : Int, vs = [.int c] ∧ ∀ p H', H p = none → Kp [] H H' → Draws p 0 H' → Q (.ref p) H'
section
variable {P : Program} {w : World} {K : PySem.W.Frag} {mg : Str → Option Value} {base : Heap}
theorem ok_Ldraws (T : Txt K mg base) : FnG P w K mg base CX0 1 T.a_Ldraws T.fd_Ldraws ["_law_cell"] spDraws := by
  refine fnG_of0 T.F_Ldraws sc_Ldraws (fun vs H Q E h => ?_) (fun cdv A outer s H vs Q E hcd hr gd h => ?_)
  · obtain ⟨c, rfl, _⟩ := h
    rfl
  · obtain ⟨c, rfl, q⟩ := h
    refine ⟨_, (pss_one (ps_ret (pe_lst (pa_cons (pe_op op_mod (pe_callTy cr_int (by rfl) T.n_int (by decide +kernel) (pa_cons (pv 0) pa_nil)) (pe_op op_powG (pe_op op_powG (pe_op op_powG pe_int pe_int) pe_int) pe_int)) (pa_cons pe_int (pa_cons (pe_cmpR op_ge (pv 0) (pe_op op_powG pe_int pe_int) (nomark _)) pa_nil)))))), ?_⟩
    rw [show start ["_law_cell"] [.int c] = [some (.int c)] from rfl]
    walk_at "go"
    rename_i p hp
    exact q p _ hp ((Kp.refl _ _).put hp) ⟨_, _, _, upd_same, Int.emod_nonneg _ (by decide +kernel), by decide, by decide⟩
end
end Ap


namespace Ap
open PySem L2
theorem erase_perm {α : Type} : ∀ {l : List α} {z : Nat} (h : z < l.length), (l[z] :: l.eraseIdx z).Perm l
  | _ :: _, 0, _ => List.Perm.refl _
  | a :: r, z + 1, h => (List.Perm.swap a _ _).trans ((erase_perm (l := r) (z := z) (by simpa using h)).cons a)
/-- any list, drawn into another order -/
def spMixed : Sp := fun vs H Q _ => ∃ (a p : Addr) (m : Nat) (xs : List V), vs = [.ref a, .ref p] ∧ Draws a m H ∧ H p = some (.lst xs) ∧ p ≠ a ∧ m + xs.length < 2 ^ 40 ∧ xs.length ≤ 100000 ∧
  ∀ (q : Addr) (ys : List V) (H' : Hp), H q = none → ys.Perm xs → Kp [a] H H' → Draws a (m + xs.length) H' → H' q = some (.lst ys) → Q (.ref q) H'
section
variable {P : Program} {w : World} {K : PySem.W.Frag} {mg : Str → Option Value} {base : Heap}
theorem ok_Lmixed (T : Txt K mg base) : FnG P w K mg base CX0 2 T.a_Lmixed T.fd_Lmixed ["_law_draws_here", "_law_some"] spMixed := by
  refine fnG_of0 T.F_Lmixed sc_Lmixed (fun vs H Q E h => ?_) (fun cdv A outer s H vs Q E hcd hr gd h => ?_)
  · obtain ⟨a, p, m, xs, rfl, _⟩ := h
    rfl
  · obtain ⟨a, p, m, xs, rfl, hD, hp, hpa, hm, hx, q⟩ := h
    refine ⟨_, (pss_cons (ps_set (i := 2) sc_Lmixed.nd rfl (Or.inl rfl) (pe_callTy cr_list (by rfl) T.n_list (by decide +kernel) (pa_cons (pv 1) pa_nil)))
    (pss_cons (ps_set (i := 3) sc_Lmixed.nd rfl (Or.inl rfl) (pe_lst pa_nil))
    (pss_cons (ps_while PassesOwn.never (pt_cmpR (op_neE hr.units0) (pv 2) (pe_lst pa_nil) (nomark _))
      (pss_one (ps_expr (pe_bm PySem.F.plainAttrs_list PySem.F.slot_list_append PySem.F.type_list_append mt_append (pv 3) (pa_cons (pe_bm PySem.F.plainAttrs_list PySem.F.slot_list_pop PySem.F.type_list_pop mt_popAt (pv 2) (pa_cons (pe_op op_mod (pe_callTy cr_int (by rfl) T.n_int (by decide +kernel) (pa_cons (pe_callG (ok_Lnext T) (hr.mono (by decide)) gd rfl T.m_Lnext T.F_Lnext.kp T.b_Lnext .nil pass0 (pa_cons (pv 0) pa_nil)) pa_nil)) (pe_callB cr_len (by rfl) T.n_len (by decide +kernel) (pa_cons (pv 2) pa_nil))) pa_nil)) pa_nil)))))
    (pss_one (ps_ret (pv 3)))))), ?_⟩
    rw [show start ["_law_draws_here", "_law_some", "_law_left", "_law_told"] [V.ref a, V.ref p] = [some (.ref a), some (.ref p), none, none] from rfl]
    walk_at "go"
    rename_i l hl t ht
    have hDa := hD
    obtain ⟨c0, k0, b0, ha, _⟩ := hDa
    have la : l ≠ a := Ne.symm (ne_of_none ha hl)
    have tl : t ≠ l := fun z => by rw [z, upd_same] at ht; cases ht
    have ht0 : H t = none := by rw [upd_ne tl] at ht; exact ht
    have ta : t ≠ a := Ne.symm (ne_of_none ha ht0)
    refine g_whl (fun σ H' => σ = [some (.ref a), some (.ref p), some (.ref l), some (.ref t)] ∧ ∃ (rs ys : List V), H' l = some (.lst rs) ∧ H' t = some (.lst ys) ∧ (ys ++ rs).Perm xs ∧ Kp [a] H H' ∧ Draws a (m + ys.length) H')
      (fun σ H' => match H' l with | some (.lst rs) => rs.length | _ => 0) ⟨rfl, xs, [], by walk_at "look", by walk_at "look", List.Perm.refl _, ((Kp.refl _ _).put hl).put ht0, ?_⟩ ?_
    · obtain ⟨c, k, b, h1, h2⟩ := hD
      exact ⟨c, k, b, by walk_at "look", h2⟩
    · rintro σ' H' ⟨rfl, rs, ys, hl', ht', hp', hK, hD'⟩
      walk_at "go"
      rename_i n hn
      have nl : l ≠ n := ne_of_none hl' hn
      have nt : t ≠ n := ne_of_none ht' hn
      obtain ⟨c, k, b, h1, h2⟩ := id hD'
      have na : a ≠ n := ne_of_none h1 hn
      refine g_kB (fun e => ?_) (fun e => ?_)
      · walk_at "go"
        have hlen : (ys ++ rs).length = xs.length := hp'.length_eq
        rw [List.length_append] at hlen
        have rs0 : 0 < rs.length := by
          cases rs with
          | nil => simp at e
          | cons _ _ => simp
        refine ⟨a, m + ys.length, rfl, ⟨c, k, b, by walk_at "look", h2⟩, by omega, fun r H2 r0 r1 k1 d1 => ?_⟩
        walk_at "go"
        have b0 : 0 ≤ r % (rs.length : Int) := Int.emod_nonneg _ (by omega)
        have b1 : r % (rs.length : Int) < (rs.length : Int) := Int.emod_lt_of_pos _ (by omega)
        obtain ⟨z, ez⟩ : ∃ z : Nat, r % (rs.length : Int) = (z : Int) := ⟨_, (Int.toNat_of_nonneg b0).symm⟩
        rw [ez] at b1 ⊢
        have zl : z < rs.length := by omega
        have hl2 : H2 l = some (.lst rs) := by walk_at "look"
        have ht2 : H2 t = some (.lst ys) := by walk_at "look"
        refine g_popAt (n := z) (y := rs[z]) hl2 rfl (List.getElem?_eq_getElem zl) (by omega) ?_
        walk_at "go"
        refine g_append (xs := ys) (by walk_at "look") (triv_szl (by omega)) ?_
        walk_at "go"
        refine ⟨⟨rfl, rs.eraseIdx z, ys ++ [rs[z]], by walk_at "look", by walk_at "look", ?_, ?_, ?_⟩, ?_⟩
        · rw [List.append_assoc]
          refine List.Perm.trans (List.Perm.append_left ys ?_) hp'
          exact erase_perm zl
        · have k2 : Kp [a] H H2 := (hK.put (hK.free hn)).trans k1
          exact (k2.put hl).put ht0
        · obtain ⟨c2, k2, b2, h3, h4⟩ := d1
          rw [List.length_append, List.length_singleton, ← Nat.add_assoc]
          exact ⟨c2, k2, b2, by walk_at "look", h4⟩
        · have e1 : (upd (upd H2 l (HO.lst (rs.eraseIdx z))) t (HO.lst (ys ++ [rs[z]]))) l = some (.lst (rs.eraseIdx z)) := by walk_at "look"
          rw [e1, hl']
          show (rs.eraseIdx z).length < rs.length
          rw [List.length_eraseIdx_of_lt zl]
          omega
      · walk_at "go"
        have er : rs = [] := by
          cases rs with
          | nil => rfl
          | cons _ _ => simp at e
        subst er
        rw [List.append_nil] at hp'
        refine q t ys _ ht0 hp' (hK.put (hK.free hn)) ?_ (by walk_at "look")
        rw [← hp'.length_eq]
        exact ⟨c, k, b, by walk_at "look", h2⟩
end
end Ap


namespace Ap
open PySem L2
/-- what stands in a net's loop: the ties so far -/
structure NetHere (H : Hp) (a lp tp : Addr) (ls : List Int) (m c : Nat) (ts : List Tie) (H' : Hp) : Prop where
  few : ts.length ≤ c
  line : H' lp = some (.lst (ls.map V.int))
  ties : ∃ vs, H' tp = some (.lst vs) ∧ DaAll (fun b => H b = none ∧ b ≠ tp ∧ b ≠ lp) H' vs (ts.map tieD)
  kp : Kp [a] H H'
  dr : Draws a m H'
theorem NetHere.mono {H : Hp} {a lp tp : Addr} {ls : List Int} {m m' c c' : Nat} {ts : List Tie} {H' : Hp} (h : NetHere H a lp tp ls m c ts H') (l : m ≤ m') (l' : c ≤ c') : NetHere H a lp tp ls m' c' ts H' := ⟨Nat.le_trans h.few l', h.line, h.ties, h.kp, h.dr.mono l⟩
theorem NetHere.next {H : Hp} {a lp tp : Addr} {ls : List Int} {m c : Nat} {ts : List Tie} {H1 H2 : Hp} (h : NetHere H a lp tp ls m c ts H1) (ha : H a ≠ none) (hl : lp ≠ a) (ht : tp ≠ a) (k : Kp [a] H1 H2) (d : Draws a (m + 1) H2) : NetHere H a lp tp ls (m + 1) c ts H2 := by
  obtain ⟨vs, e, D⟩ := h.ties
  exact ⟨h.few, k.lst (nin1 hl) h.line, ⟨vs, k.lst (nin1 ht) e, D.keep k (fun b hb => nin1 fun z => ha (z ▸ hb.1)) fun _ hb => hb⟩, h.kp.trans k, d⟩
theorem NetHere.junk {H : Hp} {a lp tp q : Addr} {ls : List Int} {m c : Nat} {ts : List Tie} {H1 : Hp} {o : HO} (h : NetHere H a lp tp ls m c ts H1) (hq : H1 q = none) : NetHere H a lp tp ls m c ts (upd H1 q o) := by
  obtain ⟨vs, e, D⟩ := h.ties
  exact ⟨h.few, by rw [upd_ne (ne_of_none h.line hq)]; exact h.line, ⟨vs, by rw [upd_ne (ne_of_none e hq)]; exact e, D.keep (Kp.new (S := []) hq) (fun _ _ => nin0) fun _ hb => hb⟩, h.kp.put (h.kp.free hq), h.dr.new hq⟩
/-- one more tie, laid at q -/
theorem NetHere.add {H : Hp} {a lp tp q : Addr} {ls : List Int} {m c : Nat} {ts : List Tie} {H1 : Hp} {vs : List V} {x y : Int} (h : NetHere H a lp tp ls m c ts H1) (ha : H a ≠ none) (htp : H tp = none) (hlt : lp ≠ tp) (hq : H1 q = none) (e : H1 tp = some (.lst vs)) :
    NetHere H a lp tp ls m (c + 1) (ts ++ [(x, y)]) (upd (upd H1 q (.lst [.int x, .int y])) tp (.lst (vs ++ [.ref q]))) := by
  obtain ⟨vs', e', D⟩ := h.ties
  obtain rfl : vs' = vs := by rw [e] at e'; cases e'; rfl
  have qt : q ≠ tp := fun z => by rw [z, e] at hq; cases hq
  have ql : q ≠ lp := fun z => by rw [z, h.line] at hq; cases hq
  obtain ⟨c', k, b, d1, d2⟩ := h.dr
  have qa : a ≠ q := fun z => by rw [← z, d1] at hq; cases hq
  have ta : a ≠ tp := fun z => ha (by rw [z]; exact htp)
  have K1 : Kp [tp] H1 (upd (upd H1 q (.lst [.int x, .int y])) tp (.lst (vs' ++ [.ref q]))) := ((Kp.refl _ _).put hq).mut (List.mem_singleton.mpr rfl) e (ntb rfl)
  refine ⟨by rw [List.length_append, List.length_singleton]; exact Nat.succ_le_succ h.few, ?_, ⟨vs' ++ [.ref q], upd_same, ?_⟩, (h.kp.put (h.kp.free hq)).put htp, ⟨c', k, b, ?_, d2⟩⟩
  · rw [upd_ne hlt, upd_ne ql.symm]; exact h.line
  · rw [List.map_append]
    refine (D.keep K1 (fun b hb => nin1 hb.2.1) fun _ hb => hb).append (.cons (.lst ⟨h.kp.free hq, qt, ql⟩ (by rw [upd_ne qt, upd_same]) (.cons (.int x) (.cons (.int y) .nil))) .nil)
  · rw [upd_ne ta, upd_ne qa]; exact d1
def spNet : Sp := fun vs H Q _ => ∃ (a : Addr) (m : Nat) (most : Int), vs = [.ref a, .int most] ∧ Draws a m H ∧ m + 2000 < 2 ^ 40 ∧ 4 ≤ most ∧ most ≤ 40 ∧
  ∀ (p q : Addr) (n : Nat) (ts : List Tie) (H' : Hp), 3 ≤ n → (n : Int) ≤ most → NetS (up n) ts → H p = none → H' p = some (.tup [.int n, .ref q]) → Da (fun b => H b = none) H' (.ref q) (netD ts) → Kp [a] H H' → Draws a (m + 2000) H' → Q (.ref p) H'
section
variable {P : Program} {w : World} {K : PySem.W.Frag} {mg : Str → Option Value} {base : Heap}
theorem ok_Lnet (T : Txt K mg base) : FnG P w K mg base CX0 3 T.a_Lnet T.fd_Lnet ["_law_draws_here", "_law_most"] spNet := by
  refine fnG_of0 T.F_Lnet sc_Lnet (fun vs H Q E h => ?_) (fun cdv A outer s H vs Q E hcd hr gd h => ?_)
  · obtain ⟨a, m, most, rfl, _⟩ := h
    rfl
  · obtain ⟨a, m, most, rfl, hD, hm, m1, m2, q⟩ := h
    refine ⟨_, (pss_cons (ps_set (i := 2) sc_Lnet.nd rfl (Or.inl rfl) (pe_op op_add pe_int (pe_op op_mod (pe_callTy cr_int (by rfl) T.n_int (by decide +kernel) (pa_cons (pe_callG (ok_Lnext T) (hr.mono (by decide)) gd rfl T.m_Lnext T.F_Lnext.kp T.b_Lnext .nil pass0 (pa_cons (pv 0) pa_nil)) pa_nil)) (pe_op op_sub (pv 1) pe_int))))
    (pss_cons (ps_set (i := 3) sc_Lnet.nd rfl (Or.inl rfl) (pe_op op_mod (pe_callTy cr_int (by rfl) T.n_int (by decide +kernel) (pa_cons (pe_callG (ok_Lnext T) (hr.mono (by decide)) gd rfl T.m_Lnext T.F_Lnext.kp T.b_Lnext .nil pass0 (pa_cons (pv 0) pa_nil)) pa_nil)) pe_int))
    (pss_cons (ps_set (i := 4) sc_Lnet.nd rfl (Or.inl rfl) (pe_callG (ok_Lmixed T) (hr.mono (by decide)) gd rfl T.m_Lmixed T.F_Lmixed.kp T.b_Lmixed .nil pass0 (pa_cons (pv 0) (pa_cons (pe_listRg rfl rfl T.n_list (prg_2 rfl T.n_range pe_int (pe_op op_add (pv 2) pe_int))) pa_nil))))
    (pss_cons (ps_set (i := 5) sc_Lnet.nd rfl (Or.inl rfl) (pe_lst pa_nil))
    (Evl.pss_cut (ps_for PassesOwn.never rfl (pi_range2 (by rfl) T.n_range (pa_cons pe_int (pa_cons (pv 2) pa_nil))) (pg_name (i := 6) sc_Lnet.nd rfl (Or.inl rfl))
      (pss_cons (ps_set (i := 7) sc_Lnet.nd rfl (Or.inl rfl) (pe_callTy cr_int (by rfl) T.n_int (by decide +kernel) (pa_cons (pe_callG (ok_Lnext T) (hr.mono (by decide)) gd rfl T.m_Lnext T.F_Lnext.kp T.b_Lnext .nil pass0 (pa_cons (pv 0) pa_nil)) pa_nil)))
      (Evl.pss_cut (ps_if (pt_cmpR op_in_seq (pv 3) (pe_lst (pa_cons pe_int (pa_cons pe_int pa_nil))) (by rfl))
        (pss_one (ps_expr (pe_bm PySem.F.plainAttrs_list PySem.F.slot_list_append PySem.F.type_list_append mt_append (pv 5) (pa_cons (pe_lst (pa_cons (pe_ix ix_list (pv 4) (pe_op op_sub (pv 6) pe_int) (fun _ _ => rfl)) (pa_cons (pe_ix ix_list (pv 4) (pv 6) (fun _ _ => rfl)) pa_nil))) pa_nil))))
        pss_nil)
      (Evl.pss_cut (ps_if (PW.pt (pw_or (pt_cmpR op_eq (pv 3) pe_int (nomark _)) (pw_or1 (PW.pt (pw_and (pt_cmpR op_eq (pv 3) pe_int (nomark _)) (pw_and1 (pt_cmpR op_gt (pe_op op_mod (pe_op op_fdiv (pv 7) pe_int) pe_int) pe_int (nomark _))))))))
        (pss_one (ps_expr (pe_bm PySem.F.plainAttrs_list PySem.F.slot_list_append PySem.F.type_list_append mt_append (pv 5) (pa_cons (pe_lst (pa_cons (pe_ix ix_list (pv 4) (pv 6) (fun _ _ => rfl)) (pa_cons (pe_ix ix_list (pv 4) (pe_op op_mod (pv 7) (pv 6)) (fun _ _ => rfl)) pa_nil))) pa_nil))))
        pss_nil)
      (pss_one (ps_for PassesOwn.never rfl (pi_list (pe_slice sl_list (pv 4) po_none (po_some (pv 6)))) (pg_name (i := 8) sc_Lnet.nd rfl (Or.inl rfl))
        (pss_one (ps_if (PW.pt (pw_and (pt_cmpR op_eq (pv 3) pe_int (nomark _)) (pw_and1 (pt_cmpR op_eq (pe_op op_mod (pe_callTy cr_int (by rfl) T.n_int (by decide +kernel) (pa_cons (pe_callG (ok_Lnext T) (hr.mono (by decide)) gd rfl T.m_Lnext T.F_Lnext.kp T.b_Lnext .nil pass0 (pa_cons (pv 0) pa_nil)) pa_nil)) pe_int) pe_int (nomark _)))))
          (pss_one (ps_expr (pe_bm PySem.F.plainAttrs_list PySem.F.slot_list_append PySem.F.type_list_append mt_append (pv 5) (pa_cons (pe_lst (pa_cons (pe_ix ix_list (pv 4) (pv 6) (fun _ _ => rfl)) (pa_cons (pv 8) pa_nil))) pa_nil))))
          pss_nil))))))))
    (Evl.pss_cut (ps_if (pt_cmpR op_eq (pv 3) pe_int (nomark _))
      (pss_one (ps_expr (pe_bm PySem.F.plainAttrs_list PySem.F.slot_list_append PySem.F.type_list_append mt_append (pv 5) (pa_cons (pe_lst (pa_cons (pe_ix ix_list (pv 4) pe_int (fun _ _ => rfl)) (pa_cons (pe_ix ix_list (pv 4) (pe_un un_neg pe_int) (fun _ _ => rfl)) pa_nil))) pa_nil))))
      pss_nil)
    (pss_one (ps_ret (pe_tup (pa_cons (pv 2) (pa_cons (pv 5) pa_nil))))))))))), ?_⟩
    rw [show start ["_law_draws_here", "_law_most", "_law_seats", "_law_kind", "_law_line", "_law_ties", "_law_at", "_law_pick", "_law_other"] [V.ref a, V.int most] = [some (.ref a), some (.int most), none, none, none, none, none, none, none] from rfl]
    obtain ⟨c0, k0, b0, ha0, _⟩ := id hD
    walk_at "go"
    refine ⟨a, m, rfl, hD, by omega, fun r H1 r0 r1 k1 d1 => ?_⟩
    walk_at "go"
    refine ⟨a, m + 1, rfl, d1, by omega, fun r' H2 r0' r1' k2 d2 => ?_⟩
    walk_at "go"
    have e0 : 0 ≤ r % (most - 2) := Int.emod_nonneg _ (by omega)
    have e1 : r % (most - 2) < most - 2 := Int.emod_lt_of_pos _ (by omega)
    obtain ⟨n, en⟩ : ∃ n : Nat, 3 + r % (most - 2) = (n : Int) := ⟨(3 + r % (most - 2)).toNat, by omega⟩
    rw [en]
    have n3 : 3 ≤ n := by omega
    have nm : (n : Int) ≤ most := by omega
    generalize ek : r' % 6 = kind
    walk_at "go"
    rename_i u hu
    rw [rgV_up]
    have a2 : ∃ x, H2 a = some (.lst x) := by
      obtain ⟨c, k, b, e, _⟩ := d2
      exact ⟨_, e⟩
    obtain ⟨xa2, a2⟩ := a2
    refine ⟨a, u, m + 1 + 1, (up n).map V.int, rfl, ?_, by walk_at "look", by walk_at "ne", ?_, ?_, fun lp ys H3 hlp hys k3 d3 h3 => ?_⟩
    · obtain ⟨c, k, b, e, h⟩ := d2
      exact ⟨c, k, b, by walk_at "look", h⟩
    · rw [List.length_map, up_length]; omega
    · rw [List.length_map, up_length]; omega
    obtain ⟨ls, rfl, hls⟩ := ints_perm hys
    have kH3 : Kp [a] H H3 := (k1.trans k2).trans ((Kp.new hu).trans k3)
    have hlp0 : H lp = none := (k1.trans k2).free ((Kp.new (S := [a]) hu).free hlp)
    have ll : ls.length = n := by rw [hls.length_eq, up_length]
    have lnd : ls.Nodup := hls.nodup_iff.mpr (up_nodup n)
    walk_at "go"
    rename_i tp htp
    have htp0 : H tp = none := kH3.free htp
    have Ha : H a ≠ none := hD.ne
    have la : lp ≠ a := fun z => Ha (z ▸ hlp0)
    have ta : tp ≠ a := fun z => Ha (z ▸ htp0)
    have lt : lp ≠ tp := ne_of_none h3 htp
    have start0 : NetHere H a lp tp ls (m + 50) 0 [] (upd H3 tp (.lst [])) := by
      refine ⟨Nat.le_refl _, by rw [upd_ne lt]; exact h3, ⟨[], upd_same, .nil⟩, kH3.put htp0, (d3.mono ?_).new htp⟩
      rw [List.length_map, up_length]; omega
    refine g_cut (fun σ' H' => ∃ x6 x7 x8 ts, σ' = [some (.ref a), some (.int most), some (.int n), some (.int kind), some (.ref lp), some (.ref tp), x6, x7, x8] ∧ NetHere H a lp tp ls (m + 50 + 50 * (n - 1)) (50 * (n - 1)) ts H' ∧ NetS (ls.take n) ts ∧ (kind = 4 → ∀ t ∈ ts, ∃ j, ls[j]? = some t.1 ∧ ls[j + 1]? = some t.2)) ?_ ?_
    · walk_at "go"
      refine g_forR (fun i σ' H' => ∃ x6 x7 x8 ts, σ' = [some (.ref a), some (.int most), some (.int n), some (.int kind), some (.ref lp), some (.ref tp), x6, x7, x8] ∧ NetHere H a lp tp ls (m + 50 + 50 * i) (50 * i) ts H' ∧ NetS (ls.take (i + 1)) ts ∧ (kind = 4 → ∀ t ∈ ts, ∃ j, ls[j]? = some t.1 ∧ ls[j + 1]? = some t.2))
        ⟨_, _, _, [], rfl, start0, NetS.nil _, fun _ _ z => nomatch z⟩ ?_ ?_
      · rintro i σ' H' hi ⟨x6, x7, x8, ts, rfl, hN, hS, h4⟩
        have hi2 : i + 1 < n := by omega
        have ey : ls[i]? = some ls[i] := List.getElem?_eq_getElem (by omega)
        have ex : ls[i + 1]? = some ls[i + 1] := List.getElem?_eq_getElem (by omega)
        generalize ls[i] = y at ey
        generalize ls[i + 1] = x at ex
        have xn : x ∉ ls.take (i + 1) := not_mem_take lnd ex
        have ext : ls.take (i + 1 + 1) = ls.take (i + 1) ++ [x] := take_succ' ex
        have atY : atI (ls.map V.int) (1 + (i : Int) - 1) = some (.int y) := atI_of (n := i) (by omega) (by rw [List.getElem?_map, ey]; rfl)
        have atX : atI (ls.map V.int) (1 + (i : Int)) = some (.int x) := atI_of (n := i + 1) (by omega) (by rw [List.getElem?_map, ex]; rfl)
        walk_at "go"
        refine ⟨a, m + 50 + 50 * i, rfl, hN.dr, by omega, fun pk Hn pk0 pk1 kn dn => ?_⟩
        have hN := hN.next Ha la ta kn dn
        clear kn dn
        have hl := hN.line
        obtain ⟨vs, ht, hvs⟩ := hN.ties
        walk_at "go"
        -- if kind in [1, 4]
        refine g_cut (fun σ' H' => ∃ ts, σ' = [some (.ref a), some (.int most), some (.int n), some (.int kind), some (.ref lp), some (.ref tp), some (.int (1 + (i : Int))), some (.int pk), x8] ∧ NetHere H a lp tp ls (m + 50 + 50 * i + 1) (50 * i + 1) ts H' ∧
          ((kind ≠ 1 ∧ kind ≠ 4 ∧ NetS (ls.take (i + 1)) ts) ∨ ((kind = 1 ∨ kind = 4) ∧ NetS (ls.take (i + 1 + 1)) ts ∧ (kind = 4 → ∀ t ∈ ts, ∃ j, ls[j]? = some t.1 ∧ ls[j + 1]? = some t.2)))) ?_ ?_
        · walk_at "go"
          rename_i u hu
          have hN := hN.junk (o := .lst [V.int 1, V.int 4]) hu
          have hl := hN.line
          obtain ⟨vs, ht, hvs⟩ := hN.ties
          refine g_kB (fun e => ?_) (fun e => ?_)
          · have e' : kind = 1 ∨ kind = 4 := by
              rcases (by simpa [inV, eqV] using e : (1 : Int) = kind ∨ (4 : Int) = kind) with z | z <;> omega
            walk_at "go"
            rename_i v hv
            refine g_append (xs := vs) (by walk_at "look") (triv_szl ?_) ?_
            · have := hN.few; rw [hvs.length, List.length_map]; omega
            walk_at "go"
            refine ⟨ts ++ [(y, x)], rfl, hN.add Ha htp0 lt hv ht, .inr ⟨e', ?_, fun e4 t tm => ?_⟩⟩
            · rw [ext]
              exact (hS.new xn (mem_take ey (by omega))).2
            · rcases List.mem_append.mp tm with tm | tm
              · exact h4 e4 t tm
              · obtain rfl := List.mem_singleton.mp tm
                exact ⟨i, ey, ex⟩
          · have e' : kind ≠ 1 ∧ kind ≠ 4 := by
              have z : ¬ (1 : Int) = kind ∧ ¬ (4 : Int) = kind := by simpa [inV, eqV] using e
              omega
            walk_at "go"
            exact ⟨ts, rfl, hN.mono (Nat.le_refl _) (by omega), .inl ⟨e'.1, e'.2, hS⟩⟩
        · rintro σ' H' ⟨ts, rfl, hN, hcase⟩
          have hl := hN.line
          obtain ⟨vs, ht, hvs⟩ := hN.ties
          -- if kind == 2 or kind == 3 and ..
          refine g_cut (fun σ' H' => ∃ ts, σ' = [some (.ref a), some (.int most), some (.int n), some (.int kind), some (.ref lp), some (.ref tp), some (.int (1 + (i : Int))), some (.int pk), x8] ∧ NetHere H a lp tp ls (m + 50 + 50 * i + 1) (50 * i + 2) ts H' ∧
            ((kind = 5 ∧ NetS (ls.take (i + 1)) ts) ∨ (kind ≠ 5 ∧ NetS (ls.take (i + 1 + 1)) ts ∧ (kind = 4 → ∀ t ∈ ts, ∃ j, ls[j]? = some t.1 ∧ ls[j + 1]? = some t.2)))) ?_ ?_
          · have other : kind ≠ 2 → kind ≠ 3 → (kind = 5 ∧ NetS (ls.take (i + 1)) ts) ∨ (kind ≠ 5 ∧ NetS (ls.take (i + 1 + 1)) ts ∧ (kind = 4 → ∀ t ∈ ts, ∃ j, ls[j]? = some t.1 ∧ ls[j + 1]? = some t.2)) := fun k2 k3 => by
              rcases hcase with ⟨h1, h4', hS⟩ | ⟨hk, hS, h4'⟩
              · by_cases h5 : kind = 5
                · exact .inl ⟨h5, hS⟩
                · exact .inr ⟨h5, by rw [ext]; exact hS.mono fun z hz => List.mem_append_left _ hz, fun z => absurd z h4'⟩
              · exact .inr ⟨by omega, hS, h4'⟩
            have put : (kind = 2 ∨ kind = 3) → ∀ t1 t2, t1 = x → t2 ∈ ls.take (i + 1) → (kind = 5 ∧ NetS (ls.take (i + 1)) (ts ++ [(t1, t2)])) ∨ (kind ≠ 5 ∧ NetS (ls.take (i + 1 + 1)) (ts ++ [(t1, t2)]) ∧ (kind = 4 → ∀ t ∈ ts ++ [(t1, t2)], ∃ j, ls[j]? = some t.1 ∧ ls[j + 1]? = some t.2)) := fun hk t1 t2 e1 e2 => by
              subst e1
              rcases hcase with ⟨h1, h4', hS⟩ | ⟨hk', hS, h4'⟩
              · exact .inr ⟨by omega, by rw [ext]; exact (hS.new xn e2).1, fun z => absurd z h4'⟩
              · omega
            have b0 : 0 ≤ pk % (1 + (i : Int)) := Int.emod_nonneg _ (by omega)
            have b1 : pk % (1 + (i : Int)) < 1 + (i : Int) := Int.emod_lt_of_pos _ (by omega)
            obtain ⟨z, ez⟩ : ∃ z : Nat, pk % (1 + (i : Int)) = (z : Int) := ⟨_, (Int.toNat_of_nonneg b0).symm⟩
            have zl : z < ls.length := by omega
            have eu : ls[z]? = some ls[z] := List.getElem?_eq_getElem zl
            generalize ls[z] = uu at eu
            have atZ : atI (ls.map V.int) (pk % (1 + (i : Int))) = some (.int uu) := atI_of ez (by rw [List.getElem?_map, eu]; rfl)
            have doit : (kind = 2 ∨ kind = 3) → True := fun _ => trivial
            walk_at "go"
            refine g_kD (fun e => ?_) (fun e => ?_)
            · walk_at "go"
              rename_i v hv
              refine g_append (xs := vs) (by walk_at "look") (triv_szl ?_) ?_
              · have := hN.few; rw [hvs.length, List.length_map]; omega
              walk_at "go"
              exact ⟨_, rfl, hN.add Ha htp0 lt hv ht, put (.inl e) _ _ rfl (mem_take eu (by omega))⟩
            · walk_at "go"
              refine g_kD (fun e3 => ?_) (fun e3 => ?_)
              · walk_at "go"
                refine g_kD (fun e4 => ?_) (fun e4 => ?_)
                · walk_at "go"
                  rename_i v hv
                  refine g_append (xs := vs) (by walk_at "look") (triv_szl ?_) ?_
                  · have := hN.few; rw [hvs.length, List.length_map]; omega
                  walk_at "go"
                  exact ⟨_, rfl, hN.add Ha htp0 lt hv ht, put (.inr e3) _ _ rfl (mem_take eu (by omega))⟩
                · walk_at "go"
                  refine ⟨ts, rfl, hN.mono (Nat.le_refl _) (by omega), ?_⟩
                  rcases hcase with ⟨h1, h4', hS⟩ | ⟨hk', hS, h4'⟩
                  · exact .inr ⟨by omega, by rw [ext]; exact hS.mono fun z hz => List.mem_append_left _ hz, fun z => absurd z h4'⟩
                  · omega
              · walk_at "go"
                exact ⟨ts, rfl, hN.mono (Nat.le_refl _) (by omega), other e e3⟩
          · rintro σ' H' ⟨ts, rfl, hN, hcase⟩
            have hl := hN.line
            obtain ⟨vs, ht, hvs⟩ := hN.ties
            walk_at "go"
            rename_i u hu
            have ecut : cutV (ls.map V.int) none (some (1 + (i : Int))) = (ls.take (i + 1)).map V.int := by
              rw [cut_to (k := i + 1) (by omega) (by rw [List.length_map]; omega), List.map_take]
            rw [ecut]
            have hN0 := hN
            have hN := hN.junk (o := .lst ((ls.take (i + 1)).map V.int)) hu
            have hl := hN.line
            have hu0 : H u = none := hN0.kp.free hu
            have ul : u ≠ lp := Ne.symm (ne_of_none hN0.line hu)
            have ut : u ≠ tp := Ne.symm (ne_of_none ht hu)
            have ua : u ≠ a := fun z => Ha (by rw [← z]; exact hu0)
            walk_at "go"
            refine g_forL (xs := (ls.take (i + 1)).map V.int) (fun j σ' H' => ∃ x8 ts, σ' = [some (.ref a), some (.int most), some (.int n), some (.int kind), some (.ref lp), some (.ref tp), some (.int (1 + (i : Int))), some (.int pk), x8] ∧ H' u = some (.lst ((ls.take (i + 1)).map V.int)) ∧ NetHere H a lp tp ls (m + 50 + 50 * i + 1 + j) (50 * i + 2 + j) ts H' ∧
              ((kind = 5 ∧ NetS (ls.take (i + 1 + 1)) ts ∧ (∀ t ∈ ts, t.2 ≠ x ∧ (t.1 = x → t.2 ∈ ls.take j))) ∨ (kind ≠ 5 ∧ NetS (ls.take (i + 1 + 1)) ts ∧ (kind = 4 → ∀ t ∈ ts, ∃ j, ls[j]? = some t.1 ∧ ls[j + 1]? = some t.2))))
              ?_ (fun j σ' H' _ h => by obtain ⟨_, _, _, h, _⟩ := h; exact SqL.of h) ?_ ?_
            · refine ⟨_, ts, rfl, by walk_at "look", hN, ?_⟩
              rcases hcase with ⟨h5, hS⟩ | h
              · refine .inl ⟨h5, by rw [ext]; exact hS.mono fun z hz => List.mem_append_left _ hz, fun t ht => ⟨fun z => xn (z ▸ (hS.mem t ht).2.1), fun z => absurd (z ▸ (hS.mem t ht).1) xn⟩⟩
              · exact .inr h
            · clear hN hl
              rintro j w' σ' H' hj ⟨x8', ts, rfl, hu', hN, hcase⟩
              have hjl : j < i + 1 := by
                have := (List.getElem?_eq_some_iff.mp hj).1
                rw [List.length_map, List.length_take] at this
                omega
              obtain ⟨uu, e1, rfl⟩ : ∃ uu, ls[j]? = some uu ∧ w' = .int uu := by
                rw [List.getElem?_map, List.getElem?_take_of_lt hjl] at hj
                cases e : ls[j]? with
                | none => rw [e] at hj; cases hj
                | some uu => rw [e] at hj; cases hj; exact ⟨uu, rfl, rfl⟩
              have hl := hN.line
              obtain ⟨vs, ht, hvs⟩ := hN.ties
              walk_at "go"
              refine g_kD (fun e5 => ?_) (fun e5 => ?_)
              · walk_at "go"
                refine ⟨a, m + 50 + 50 * i + 1 + j, rfl, hN.dr, by omega, fun r Hn r0 r1 kn dn => ?_⟩
                have hu2 : Hn u = some (.lst ((ls.take (i + 1)).map V.int)) := kn.lst (nin1 ua) hu'
                have hN := hN.next Ha la ta kn dn
                clear kn dn
                have hl := hN.line
                obtain ⟨vs, ht, hvs⟩ := hN.ties
                rcases hcase with ⟨_, hS, hO⟩ | ⟨z, _⟩
                · walk_at "go"
                  refine g_kD (fun e0 => ?_) (fun e0 => ?_)
                  · walk_at "go"
                    rename_i v hv
                    refine g_append (xs := vs) (by walk_at "look") (triv_szl ?_) ?_
                    · have := hN.few; rw [hvs.length, List.length_map]; omega
                    walk_at "go"
                    have um : uu ∈ ls.take (i + 1) := mem_take e1 hjl
                    have ux : x ≠ uu := fun z => xn (z ▸ um)
                    refine ⟨_, _, rfl, ?_, hN.add Ha htp0 lt hv ht, .inl ⟨e5, ?_, fun t tm => ?_⟩⟩
                    · rw [upd_ne ut, upd_ne (ne_of_none hu2 hv)]; exact hu2
                    · refine hS.snoc (by rw [ext]; exact List.mem_append_right _ (List.mem_singleton.mpr rfl)) (by rw [ext]; exact List.mem_append_left _ um) ux fun s hs => ⟨fun z => ?_, fun z => (hO s hs).1 z.2⟩
                      exact not_mem_take lnd e1 (by rw [← show s.2 = uu from z.2]; exact (hO s hs).2 z.1)
                    · rcases List.mem_append.mp tm with tm | tm
                      · exact ⟨(hO t tm).1, fun z => by rw [take_succ' e1]; exact List.mem_append_left _ ((hO t tm).2 z)⟩
                      · obtain rfl := List.mem_singleton.mp tm
                        exact ⟨Ne.symm ux, fun _ => by rw [take_succ' e1]; exact List.mem_append_right _ (List.mem_singleton.mpr rfl)⟩
                  · walk_at "go"
                    exact ⟨_, ts, rfl, hu2, hN.mono (by omega) (by omega), .inl ⟨e5, hS, fun t tm => ⟨(hO t tm).1, fun z => by rw [take_succ' e1]; exact List.mem_append_left _ ((hO t tm).2 z)⟩⟩⟩
                · exact absurd e5 z
              · walk_at "go"
                rcases hcase with ⟨z, _⟩ | h
                · exact absurd z e5
                · exact ⟨_, ts, rfl, hu', hN.mono (by omega) (by omega), .inr h⟩
            · rintro σ' H' ⟨x8', ts, rfl, hu', hN, hcase⟩
              rw [List.length_map, List.length_take] at hN
              walk_at "go"
              refine ⟨_, _, _, ts, rfl, hN.mono (by omega) (by omega), ?_, ?_⟩
              · rcases hcase with ⟨_, h, _⟩ | ⟨_, h, _⟩
                · exact h
                · exact h
              · rcases hcase with ⟨h5, _⟩ | ⟨_, _, h⟩
                · intro z; omega
                · exact h
      · rintro σ' H' ⟨x6, x7, x8, ts, rfl, hN, hS, h4⟩
        walk_at "go"
        have e : ((n : Int) - 1).toNat = n - 1 := by omega
        rw [e] at hN hS
        rw [show n - 1 + 1 = n by omega] at hS
        exact ⟨_, _, _, ts, rfl, hN, hS, h4⟩
    · rintro σ' H' ⟨x6, x7, x8, ts, rfl, hN, hS, h4⟩
      have hl := hN.line
      obtain ⟨vs, ht, hvs⟩ := hN.ties
      rw [List.take_of_length_le (by omega)] at hS
      have e0 : ls[0]? = some ls[0] := List.getElem?_eq_getElem (by omega)
      have e1 : ls[n - 1]? = some ls[n - 1] := List.getElem?_eq_getElem (by omega)
      generalize ls[0] = y at e0
      generalize ls[n - 1] = x at e1
      have at0 : atI (ls.map V.int) 0 = some (.int y) := atI_of (n := 0) rfl (by rw [List.getElem?_map, e0]; rfl)
      have at1 : atI (ls.map V.int) (-1) = some (.int x) := by
        unfold atI ixN
        rw [if_neg (by omega), if_pos (by rw [List.length_map]; omega), List.length_map, ll, show (-1 + (n : Int)).toNat = n - 1 by omega]
        show (ls.map V.int)[n - 1]? = _
        rw [List.getElem?_map, e1]; rfl
      have xy : y ≠ x := fun z => by
        obtain ⟨h0, f0⟩ := List.getElem?_eq_some_iff.mp e0
        obtain ⟨h1, f1⟩ := List.getElem?_eq_some_iff.mp e1
        have := (List.getElem_inj lnd).mp (f0.trans (z.trans f1.symm))
        omega
      have pos : ∀ {i j : Nat} {z : Int}, ls[i]? = some z → ls[j]? = some z → i = j := fun {i j z} a b => by
        obtain ⟨h0, f0⟩ := List.getElem?_eq_some_iff.mp a
        obtain ⟨h1, f1⟩ := List.getElem?_eq_some_iff.mp b
        exact (List.getElem_inj lnd).mp (f0.trans f1.symm)
      have inup : ∀ z ∈ ls, z ∈ up n := fun z hz => hls.mem_iff.mp hz
      refine g_cut (fun σ' H' => ∃ ts, σ' = [some (.ref a), some (.int most), some (.int n), some (.int kind), some (.ref lp), some (.ref tp), x6, x7, x8] ∧ NetHere H a lp tp ls (m + 50 + 50 * (n - 1)) (50 * (n - 1) + 1) ts H' ∧ NetS ls ts) ?_ ?_
      · walk_at "go"
        refine g_kD (fun e4 => ?_) (fun e4 => ?_)
        · walk_at "go"
          rename_i v hv
          refine g_append (xs := vs) (by walk_at "look") (triv_szl ?_) ?_
          · have := hN.few; rw [hvs.length, List.length_map]; omega
          walk_at "go"
          refine ⟨_, rfl, hN.add Ha htp0 lt hv ht, hS.snoc (List.mem_of_getElem? e0) (List.mem_of_getElem? e1) xy fun s hs => ⟨fun z => ?_, fun z => ?_⟩⟩
          · obtain ⟨j, j1, j2⟩ := h4 e4 s hs
            rw [z.1] at j1
            rw [z.2] at j2
            have a1 := pos j1 e0
            have a2 := pos j2 e1
            omega
          · obtain ⟨j, j1, j2⟩ := h4 e4 s hs
            rw [z.1] at j1
            rw [z.2] at j2
            have a1 := pos j1 e1
            have a2 := pos j2 e0
            omega
        · walk_at "go"
          exact ⟨ts, rfl, hN.mono (by omega) (by omega), hS⟩
      · rintro σ' H' ⟨ts, rfl, hN, hS⟩
        obtain ⟨vs, ht, hvs⟩ := hN.ties
        walk_at "go"
        rename_i v hv
        refine q v tp n ts _ n3 nm (hS.mono inup) (hN.kp.free hv) upd_same (.lst htp0 (by rw [upd_ne (ne_of_none ht hv)]; exact ht) (hvs.keep (Kp.new (S := []) hv) (fun _ _ => nin0) fun _ h => h.1)) (hN.kp.put (hN.kp.free hv)) ((hN.dr.mono (by omega)).new hv)
end
end Ap


namespace Ap
open PySem L2 PySem.Spec PyProof.Rows
def spLaw (K : PySem.W.Frag) (tb : List Addr) : Sp := fun vs H Q _ => ∃ (a : Addr) (ns : List Int), vs = [.ref a] ∧ SqL K H a (ns.map V.int) ∧ ns.length ≤ 63 ∧ Tabs tb H ∧ ∀ H', Q (.bl true) H'
theorem Draws.kp {S : List Addr} {a : Addr} {m : Nat} {H H' : Hp} (h : Draws a m H) (k : Kp S H H') (n : a ∉ S) : Draws a m H' := by
  obtain ⟨c, i, b, e, r⟩ := h
  exact ⟨c, i, b, k.lst n e, r⟩
theorem Kp.off {d : Addr} {H G G1 : Hp} (a : Kp [] H G) (b : Kp [d] G G1) (hd : H d = none) : Kp [] H G1 :=
  ⟨fun c o _ e t => b.keep c o (nin1 fun z => by rw [z, hd] at e; cases e) (a.keep c o nin0 e t) t, fun c ps e t => by
    obtain ⟨ps', e', t'⟩ := a.tbl c ps e t
    exact b.tbl c ps' e' t', fun c o e => by
    obtain ⟨o', e'⟩ := a.there c o e
    exact b.there c o' e'⟩
/-- what stands in the law's loops: the drawers dl in the list at D -/
structure LHere (H : Hp) (dl : List Addr) (D ml : Addr) (M : Nat) (G : Hp) : Prop where
  kp : Kp [] H G
  l : G D = some (.lst (dl.map V.ref))
  m : G ml = some (.lst [.int 4, .int 8, .int 40])
  ds : ∀ d ∈ dl, H d = none ∧ d ≠ D ∧ d ≠ ml ∧ Draws d M G
theorem LHere.step {H : Hp} {dl : List Addr} {D ml d : Addr} {M M' : Nat} {G G1 : Hp} (h : LHere H dl D ml M G) (k : Kp [d] G G1) (dr : Draws d M' G1) (le : M ≤ M') (d1 : H d = none) (d2 : d ≠ D) (d3 : d ≠ ml) : LHere H dl D ml M' G1 :=
  ⟨h.kp.off k d1, k.lst (nin1 (Ne.symm d2)) h.l, k.lst (nin1 (Ne.symm d3)) h.m, fun e he => by
    obtain ⟨a1, a2, a3, a4⟩ := h.ds e he
    refine ⟨a1, a2, a3, ?_⟩
    by_cases c : e = d
    · rw [c]; exact dr
    · exact (a4.mono le).kp k (nin1 c)⟩
theorem LHere.keep {H : Hp} {dl : List Addr} {D ml : Addr} {M M' : Nat} {G G1 : Hp} (h : LHere H dl D ml M G) (k : Kp [] G G1) (le : M ≤ M') : LHere H dl D ml M' G1 :=
  ⟨h.kp.trans k, k.lst nin0 h.l, k.lst nin0 h.m, fun e he => ⟨(h.ds e he).1, (h.ds e he).2.1, (h.ds e he).2.2.1, ((h.ds e he).2.2.2.mono le).kp k nin0⟩⟩
instance {s t : Tie} : Decidable (Apart s t) := by unfold Apart; infer_instance
instance {n : Nat} {ts : List Tie} : Decidable (RowP n ts) := by unfold RowP; infer_instance
def rowT : List Tie := (List.range 39).map fun i : Nat => (1 + (i : Int), 1 + (i : Int) + 1)
def starT : List Tie := (List.range 39).map fun i : Nat => ((40 : Int), 1 + (i : Int))
theorem pairs_more {G : Hp} {D e : Addr} {vs : List V} {ts : List Tie} {s : Tie} (hv : G D = some (.lst vs)) (hA : DaAll (fun b => b ≠ D) G vs (ts.map tieD)) (he : G e = none) :
    DaAll (fun b => b ≠ D) (upd (upd G e (.lst [.int s.1, .int s.2])) D (.lst (vs ++ [.ref e]))) (vs ++ [.ref e]) ((ts ++ [s]).map tieD) := by
  have eD : e ≠ D := fun z => by rw [z, hv] at he; cases he
  rw [List.map_append]
  exact (((hA.fresh he).other fun b hb => hb.1).imp fun b hb => hb.1).append (.cons (.lst eD (by rw [upd_ne eD]; exact upd_same) (.cons (.int _) (.cons (.int _) .nil))) .nil)
section
variable {P : Program} {w : World} {K : PySem.W.Frag} {mg : Str → Option Value} {base : Heap}
theorem ok_law (T : Txt K mg base) : FnG P w K mg base CX0 8 T.a_law T.fd_law ["_law_script"] (spLaw K T.tbs) := by
  refine fnG_of0 T.F_law sc_law (fun vs H Q E h => ?_) (fun cdv A outer s H vs Q E hcd hr gd h => ?_)
  · obtain ⟨a, ns, rfl, _⟩ := h
    rfl
  · obtain ⟨a, ns, rfl, ha, hn, hT, q⟩ := h
    refine ⟨_, (Evl.pss_cut (ps_for PassesOwn.never rfl (pi_list (pe_lc (own := [("_law_cell", 8)]) (g := gName 8) (tt := tYes) rfl sc_law.nd (pi_list (pe_op op_cat (pe_slice sl_list (pv 0) po_none (po_some pe_int)) (pe_lst (pa_cons pe_int pa_nil)))) (blkOk_by (N := ["_law_script", "_law_draws_here", "_law_most", "_law_seats", "_law_ties", "_law_turned", "_law_row", "_law_star", "_law_cell", "_law_seat", "_law_pair"]) (sc := defScope s_law) (by decide +kernel)) (fun _ _ _ _ _ => (pg_name (i := 8) sc_law.nd rfl (Or.inl rfl))) (fun _ _ _ _ _ => pts_nil) (fun _ _ _ _ _ => (pe_callG (ok_Ldraws T) (hr.mono (by decide)) gd rfl T.m_Ldraws T.F_Ldraws.kp T.b_Ldraws .nil pass0 (pa_cons (pv 8) pa_nil))))) (pg_name (i := 1) sc_law.nd rfl (Or.inr rfl))
      (pss_one (ps_for PassesOwn.never rfl (pi_list (pe_lst (pa_cons pe_int (pa_cons pe_int (pa_cons pe_int pa_nil))))) (pg_name (i := 2) sc_law.nd rfl (Or.inl rfl))
        (Evl.pss_cut (ps_asg (pe_callG (ok_Lnet T) (hr.mono (by decide)) gd rfl T.m_Lnet T.F_Lnet.kp T.b_Lnet .nil pass0 (pa_cons (pv 1) (pa_cons (pv 2) pa_nil))) (pg_tup rfl (pgs_cons (pg_name (i := 3) sc_law.nd rfl (Or.inl rfl)) (pgs_cons (pg_name (i := 4) sc_law.nd rfl (Or.inl rfl)) pgs_nil))))
        (pss_cons (ps_setLc (i := 5) (own := [("_law_pair", 10)]) (g := gName 10) (tt := tYes) rfl sc_law.nd rfl rfl (sw_true rfl rfl rfl (by decide +kernel)) (pi_list (pe_callG (ok_Lmixed T) (hr.mono (by decide)) gd rfl T.m_Lmixed T.F_Lmixed.kp T.b_Lmixed .nil pass0 (pa_cons (pv 1) (pa_cons (pv 4) pa_nil)))) (blkOk_by (N := ["_law_script", "_law_draws_here", "_law_most", "_law_seats", "_law_ties", "_law_turned", "_law_row", "_law_star", "_law_cell", "_law_seat", "_law_pair"]) (sc := defScope s_law) (by decide +kernel)) (fun _ _ _ _ _ => (pg_name (i := 10) sc_law.nd rfl (Or.inl rfl))) (fun _ _ _ _ _ => pts_nil) (fun _ _ _ _ _ => (pe_ifExp (pt_cmpR op_eq (pe_op op_mod (pe_callTy cr_int (by rfl) T.n_int (by decide +kernel) (pa_cons (pe_callG (ok_Lnext T) (hr.mono (by decide)) gd rfl T.m_Lnext T.F_Lnext.kp T.b_Lnext .nil pass0 (pa_cons (pv 1) pa_nil)) pa_nil)) pe_int) pe_int (nomark _)) (show PE _ _ (tRevL K _) from pe_revL (pv 10)) (pe_callTy (r := rLo K) cr_list (by rfl) T.n_list (by decide +kernel) (pa_cons (pv 10) pa_nil)))))
        (pss_one (ps_if (PW.pt (pw_or (pt_not (pt_val (pe_callG (ok_Lright T) (hr.mono (by decide)) gd rfl T.m_Lright T.F_Lright.kp T.b_Lright .nil pass0 (pa_cons (pv 3) (pa_cons (pv 4) pa_nil))))) (pw_or1 (pt_not (pt_val (pe_callG (ok_Lright T) (hr.mono (by decide)) gd rfl T.m_Lright T.F_Lright.kp T.b_Lright .nil pass0 (pa_cons (pv 3) (pa_cons (pv 5) pa_nil))))))))
          (pss_one (ps_ret pe_bl))
          pss_nil)))))))
    (Evl.pss_cut (ps_setLc (i := 6) (own := [("_law_seat", 9)]) (g := gName 9) (tt := tYes) rfl sc_law.nd rfl rfl (sw_true rfl rfl rfl (by decide +kernel)) (pi_range2 (by rfl) T.n_range (pa_cons pe_int (pa_cons pe_int pa_nil))) (blkOk_by (N := ["_law_script", "_law_draws_here", "_law_most", "_law_seats", "_law_ties", "_law_turned", "_law_row", "_law_star", "_law_cell", "_law_seat", "_law_pair"]) (sc := defScope s_law) (by decide +kernel)) (fun _ _ _ _ _ => (pg_name (i := 9) sc_law.nd rfl (Or.inl rfl))) (fun _ _ _ _ _ => pts_nil) (fun _ _ _ _ _ => (pe_lst (pa_cons (pv 9) (pa_cons (pe_op op_add (pv 9) pe_int) pa_nil)))))
    (Evl.pss_cut (ps_setLc (i := 7) (own := [("_law_seat", 9)]) (g := gName 9) (tt := tYes) rfl sc_law.nd rfl rfl (sw_true rfl rfl rfl (by decide +kernel)) (pi_range2 (by rfl) T.n_range (pa_cons pe_int (pa_cons pe_int pa_nil))) (blkOk_by (N := ["_law_script", "_law_draws_here", "_law_most", "_law_seats", "_law_ties", "_law_turned", "_law_row", "_law_star", "_law_cell", "_law_seat", "_law_pair"]) (sc := defScope s_law) (by decide +kernel)) (fun _ _ _ _ _ => (pg_name (i := 9) sc_law.nd rfl (Or.inl rfl))) (fun _ _ _ _ _ => pts_nil) (fun _ _ _ _ _ => (pe_lst (pa_cons pe_int (pa_cons (pv 9) pa_nil)))))
    (Evl.pss_cut (ps_for PassesOwn.never rfl (pi_list (pe_lst (pa_cons (pe_lst pa_nil) (pa_cons (pv 6) (pa_cons (pe_op op_cat (pv 6) (pe_lst (pa_cons (pe_lst (pa_cons pe_int (pa_cons pe_int pa_nil))) pa_nil))) (pa_cons (pe_slice sl_list (pv 6) po_none (po_some pe_int)) (pa_cons (pe_lst (pa_cons (pe_lst (pa_cons pe_int (pa_cons pe_int pa_nil))) pa_nil)) (pa_cons (pe_lst (pa_cons (pe_lst (pa_cons pe_int (pa_cons pe_int pa_nil))) (pa_cons (pe_lst (pa_cons pe_int (pa_cons pe_int pa_nil))) pa_nil))) (pa_cons (pv 7) pa_nil))))))))) (pg_name (i := 4) sc_law.nd rfl (Or.inl rfl))
      (pss_one (ps_if (pt_not (pt_val (pe_callG (ok_Lright T) (hr.mono (by decide)) gd rfl T.m_Lright T.F_Lright.kp T.b_Lright .nil pass0 (pa_cons pe_int (pa_cons (pv 4) pa_nil)))))
        (pss_one (ps_ret pe_bl))
        pss_nil)))
    (pss_cons (ps_if (PW.pt (pw_or (pt_not (pt_val (pe_callG (ok_is_row T) (hr.mono (by decide)) gd rfl T.m_is_row T.F_is_row.kp T.b_is_row .nil pass0 (pa_cons pe_int (pa_cons (pe_lst (pa_cons (pe_lst (pa_cons pe_int (pa_cons pe_int pa_nil))) (pa_cons (pe_lst (pa_cons pe_int (pa_cons pe_int pa_nil))) pa_nil))) pa_nil))))) (pw_or (pt_val (pe_callG (ok_is_row T) (hr.mono (by decide)) gd rfl T.m_is_row T.F_is_row.kp T.b_is_row .nil pass0 (pa_cons pe_int (pa_cons (pe_lst (pa_cons (pe_lst (pa_cons pe_int (pa_cons pe_int pa_nil))) (pa_cons (pe_lst (pa_cons pe_int (pa_cons pe_int pa_nil))) (pa_cons (pe_lst (pa_cons pe_int (pa_cons pe_int pa_nil))) pa_nil)))) pa_nil)))) (pw_or1 (pt_val (pe_callG (ok_is_row T) (hr.mono (by decide)) gd rfl T.m_is_row T.F_is_row.kp T.b_is_row .nil pass0 (pa_cons pe_int (pa_cons (pe_lst (pa_cons (pe_lst (pa_cons pe_int (pa_cons pe_int pa_nil))) (pa_cons (pe_lst (pa_cons pe_int (pa_cons pe_int pa_nil))) pa_nil))) pa_nil))))))))
      (pss_one (ps_ret pe_bl))
      pss_nil)
    (pss_cons (ps_if (pt_cmpR (op_neD hr.units) (pe_lst (pa_cons (pe_callG (ok_is_wood T) (hr.mono (by decide)) gd rfl T.m_is_wood T.F_is_wood.kp T.b_is_wood .nil pass0 (pa_cons pe_int (pa_cons (pe_lst pa_nil) pa_nil))) (pa_cons (pe_callG (ok_is_row T) (hr.mono (by decide)) gd rfl T.m_is_row T.F_is_row.kp T.b_is_row .nil pass0 (pa_cons pe_int (pa_cons (pe_lst pa_nil) pa_nil))) (pa_cons (pe_callG (ok_is_wood T) (hr.mono (by decide)) gd rfl T.m_is_wood T.F_is_wood.kp T.b_is_wood .nil pass0 (pa_cons pe_int (pa_cons (pe_lst (pa_cons (pe_lst (pa_cons pe_int (pa_cons pe_int pa_nil))) (pa_cons (pe_lst (pa_cons pe_int (pa_cons pe_int pa_nil))) (pa_cons (pe_lst (pa_cons pe_int (pa_cons pe_int pa_nil))) pa_nil)))) pa_nil))) pa_nil)))) (pe_lst (pa_cons pe_bl (pa_cons pe_bl (pa_cons pe_bl pa_nil)))) (nomark _))
      (pss_one (ps_ret pe_bl))
      pss_nil)
    (pss_one (ps_ret (pe_and (pe_cmpR (op_eqD hr.units) (pe_callG (ok_parts T) (hr.mono (by decide)) gd rfl T.m_parts T.F_parts.kp T.b_parts .nil pass0 (pa_cons pe_int (pa_cons (pe_lst (pa_cons (pe_lst (pa_cons pe_int (pa_cons pe_int pa_nil))) (pa_cons (pe_lst (pa_cons pe_int (pa_cons pe_int pa_nil))) pa_nil))) pa_nil))) (pe_lst (pa_cons (pe_lst (pa_cons pe_int pa_nil)) (pa_cons (pe_lst (pa_cons pe_int (pa_cons pe_int (pa_cons pe_int pa_nil)))) (pa_cons (pe_lst (pa_cons pe_int pa_nil)) pa_nil)))) (nomark _)) (pe_one (pe_not (pe_callG (ok_is_row T) (hr.mono (by decide)) gd rfl T.m_is_row T.F_is_row.kp T.b_is_row .nil pass0 (pa_cons pe_int (pa_cons (pe_lst (pa_cons (pe_lst (pa_cons pe_int (pa_cons pe_int pa_nil))) (pa_cons (pe_lst (pa_cons pe_int (pa_cons pe_int pa_nil))) (pa_cons (pe_lst (pa_cons pe_int (pa_cons pe_int pa_nil))) pa_nil)))) pa_nil)))))))))))))), ?_⟩
    rw [show start ["_law_script", "_law_draws_here", "_law_most", "_law_seats", "_law_ties", "_law_turned", "_law_row", "_law_star", "_law_cell", "_law_seat", "_law_pair"] [.ref a] = [some (.ref a), none, none, none, none, none, none, none, none, none, none] from rfl]
    refine g_cut (fun σ' H' => ∃ x1 x2 x3 x4 x5, σ' = [some (.ref a), x1, x2, x3, x4, x5, none, none, none, none, none] ∧ Kp [] H H') ?_ ?_
    · walk_at "go"
      refine ⟨a, ns.map V.int, rfl, ha, fun sl hsl => ?_⟩
      rw [cut_any (i := 6) (k := 6) rfl, ← List.map_take]
      walk_at "go"
      rename_i z hz
      have slz : sl ≠ z := fun c => by rw [← c, upd_same] at hz; cases hz
      have hz0 : H z = none := by rw [upd_ne (Ne.symm slz)] at hz; exact hz
      refine g_cat (xs := (ns.take 6).map V.int) (zs := [.int 0]) (by rw [upd_ne slz]; exact upd_same) upd_same (triv_sz (by rw [List.length_map, List.length_take]; simp; omega)) fun c hc => ?_
      have hc0 : H c = none := by
        have a1 : c ≠ z := fun e => by rw [e, upd_same] at hc; cases hc
        rw [upd_ne a1] at hc
        have a2 : c ≠ sl := fun e => by rw [e, upd_same] at hc; cases hc
        rw [upd_ne a2] at hc
        exact hc
      have hK0 : Kp [] H (upd (upd (upd H sl (.lst ((ns.take 6).map V.int))) z (.lst [.int 0])) c (.lst ((ns.take 6).map V.int ++ [.int 0]))) := (((Kp.refl _ _).put hsl).put hz0).put hc0
      have hc1 : (upd (upd (upd H sl (.lst ((ns.take 6).map V.int))) z (.lst [.int 0])) c (.lst ((ns.take 6).map V.int ++ [.int 0]))) c = some (.lst ((ns.take 6 ++ [0]).map V.int)) := by rw [upd_same, List.map_append]; rfl
      generalize upd (upd (upd H sl (.lst ((ns.take 6).map V.int))) z (.lst [.int 0])) c (.lst ((ns.take 6).map V.int ++ [.int 0])) = G0 at hK0 hc1 ⊢
      clear hz slz hz0 hc hc0 hsl sl z
      have len7 : (ns.take 6 ++ [0]).length ≤ 7 := by rw [List.length_append, List.length_take]; simp; omega
      generalize ns.take 6 ++ [0] = cs at hc1 len7 ⊢
      walk_at "go"
      refine g_lc (walk_list (xs := cs.map V.int)) (w0 := [some (.ref a), none, none, none, none, none, none, none, none, none, none]) rfl fun D hD =>
        ⟨fun j G => ∃ dl : List Addr, dl.length = j ∧ G D = some (.lst (dl.map V.ref)) ∧ Kp [] H G ∧ G c = some (.lst (cs.map V.int)) ∧ ∀ d ∈ dl, H d = none ∧ d ≠ D ∧ Draws d 0 G,
          ⟨[], rfl, upd_same, hK0.put (hK0.free hD), by rw [upd_ne (ne_of_none hc1 hD)]; exact hc1, fun _ z => (nomatch z)⟩, fun j G _ h => ?_, ?_, ?_⟩
      · obtain ⟨_, _, _, _, h, _⟩ := h
        exact SqL.of h
      · rintro j x G G' hj ⟨dl, hn2, hl, hK, hcc, hds⟩ ⟨rfl, hx⟩
        rw [List.getElem?_map] at hx
        obtain ⟨i0, hi0, rfl⟩ := Option.map_eq_some_iff.mp hx
        rw [List.length_map] at hj
        walk_at "go"
        refine g_kLg rfl ?_
        walk_at "go"
        refine ⟨i0, rfl, fun d G2 hd hK2 hdr => ?_⟩
        have dD : d ≠ D := fun e => by rw [e, hl] at hd; cases hd
        have HD := hK0.free hD
        have l2 := hK2.lst nin0 hl
        have Dd : D ≠ c := fun e => by rw [e, hc1] at hD; cases hD
        refine g_kLe l2 (triv_szl (by rw [List.length_map]; omega)) ⟨dl ++ [d], by rw [List.length_append, hn2]; rfl, by rw [List.map_append]; exact upd_same, (hK.trans hK2).put HD, by rw [upd_ne (Ne.symm Dd)]; exact hK2.lst nin0 hcc, fun e he => ?_⟩
        rcases List.mem_append.mp he with he | he
        · obtain ⟨a1, a2, a3⟩ := hds e he
          exact ⟨a1, a2, (a3.kp hK2 nin0).put a2⟩
        · obtain rfl := List.mem_singleton.mp he
          exact ⟨hK.free hd, dD, hdr.put dD⟩
      · rintro G ⟨dl, hn2, hl, hK, hcc, hds⟩
        walk_at "go"
        refine g_forL (xs := dl.map V.ref) (fun i σ' G => ∃ x1 x2 x3 x4 x5, σ' = [some (.ref a), x1, x2, x3, x4, x5, none, none, none, none, none] ∧ Kp [] H G ∧ G D = some (.lst (dl.map V.ref)) ∧ ∀ d ∈ dl, H d = none ∧ d ≠ D ∧ Draws d (20000 * i) G)
          ⟨_, _, _, _, _, rfl, hK, hl, hds⟩ (fun i σ' G _ h => ?_) ?_ ?_
        · obtain ⟨_, _, _, _, _, _, _, h, _⟩ := h
          exact SqL.of h
        · clear hl hK hds hcc G
          rintro i x σ' G hi ⟨x1, x2, x3, x4, x5, rfl, hK, hl, hds⟩
          rw [List.getElem?_map] at hi
          obtain ⟨d, hd, rfl⟩ := Option.map_eq_some_iff.mp hi
          have il := (List.getElem?_eq_some_iff.mp hd).1
          rw [hn2, List.length_map] at il
          have din := List.mem_of_getElem? hd
          walk_at "go"
          rename_i ml hml
          refine g_forL (xs := [.int 4, .int 8, .int 40]) (fun j σ' G => ∃ x2 x3 x4 x5, σ' = [some (.ref a), some (.ref d), x2, x3, x4, x5, none, none, none, none, none] ∧ Kp [] H G ∧ G D = some (.lst (dl.map V.ref)) ∧ G ml = some (.lst [.int 4, .int 8, .int 40]) ∧ ∀ d ∈ dl, H d = none ∧ d ≠ D ∧ d ≠ ml ∧ Draws d (20000 * i + 6000 * j) G)
            ⟨_, _, _, _, rfl, hK.put (hK.free hml), by rw [upd_ne (ne_of_none hl hml)]; exact hl, upd_same, fun e he => ?_⟩ (fun j σ' G _ h => ?_) ?_ ?_
          · obtain ⟨a1, a2, a3⟩ := hds e he
            exact ⟨a1, a2, fun z => a3.ne (by rw [z]; exact hml), a3.new hml⟩
          · obtain ⟨_, _, _, _, _, _, _, h, _⟩ := h
            exact SqL.of h
          · clear hl hK hds hml x1 x2 x3 x4 x5 G
            rintro j x σ' G hj ⟨x2, x3, x4, x5, rfl, hK, hl, hm, hds⟩
            have jl := (List.getElem?_eq_some_iff.mp hj).1
            obtain ⟨most, rfl, mo1, mo2⟩ : ∃ most : Int, x = .int most ∧ 4 ≤ most ∧ most ≤ 40 := by
              have := List.mem_of_getElem? hj
              simp at this
              rcases this with rfl | rfl | rfl
              · exact ⟨_, rfl, by decide, by decide⟩
              · exact ⟨_, rfl, by decide, by decide⟩
              · exact ⟨_, rfl, by decide, by decide⟩
            obtain ⟨d1, d2, d3, d4⟩ := hds d din
            refine g_name2 ?_
            have hL : LHere H dl D ml (20000 * i + 6000 * j) G := ⟨hK, hl, hm, hds⟩
            have iM : 20000 * i + 6000 * j ≤ 140000 + 20000 := by simp at jl; omega
            generalize eM : 20000 * i + 6000 * j = M at hL d4 iM
            refine g_cut (fun σ' G' => ∃ (n : Nat) (ts : List Tie) (q : Addr), σ' = [some (.ref a), some (.ref d), some (.int most), some (.int n), some (.ref q), x5, none, none, none, none, none] ∧ LHere H dl D ml (M + 2000) G' ∧ 3 ≤ n ∧ n ≤ 40 ∧ NetS (up n) ts ∧ Da (fun b => b ≠ d) G' (.ref q) (netD ts)) ?_ ?_
            · walk_at "go"
              refine ⟨d, M, most, rfl, d4, by omega, mo1, mo2, fun p q' n ts G1 n3 nm hS hp htup hDa hk hdr => ?_⟩
              walk_at "go"
              exact ⟨n, ts, q', rfl, hL.step hk hdr (by omega) d1 d2 d3, n3, by omega, hS, hDa.imp fun b hb z => d4.ne (by rw [← z]; exact hb)⟩
            · clear d4 hL hds hm hl hK G
              rintro σ' G ⟨n, ts, q', rfl, hL, n3, n40, hS, hDa⟩
              have few := hS.few n40
              obtain ⟨q'', xs, eq, qd, hq, hA⟩ := hDa.list_inv
              cases eq
              have lx : xs.length = ts.length := by rw [hA.length, List.length_map]
              walk_at "go"
              refine ⟨d, q', M + 2000, xs, rfl, (hL.ds d din).2.2.2, hq, qd, by omega, by omega, fun r ys G2 hr perm hk2 hdr2 hys => ?_⟩
              have ly : ys.length = ts.length := by rw [perm.length_eq, lx]
              have hL2 := hL.step hk2 hdr2 (by omega) d1 d2 d3
              have hDa2 := hDa.keep hk2 (fun b hb => nin1 hb) fun _ h => h
              obtain ⟨us, pus, hB⟩ := DaAll.perm (f := tieD) perm (hA.keep hk2 (fun b hb => nin1 hb) fun _ h => h)
              have rd : r ≠ d := fun z => (hL.ds d din).2.2.2.ne (by rw [← z]; exact hr)
              have hSu := hS.perm pus
              have lu : us.length = ts.length := pus.length_eq
              clear hL hDa hA hr hk2 hdr2 hq G
              rw [lx] at hL2
              walk_at "go"
              refine g_lc (walk_list (xs := ys)) (w0 := [some (.ref a), some (.ref d), some (.int most), some (.int n), some (.ref q'), x5, none, none, none, none, none]) rfl fun E hE =>
                ⟨fun j G => ∃ (ps : List Tie) (vs : List V), ps.length = j ∧ G E = some (.lst vs) ∧ DaAll (fun b => b ≠ d ∧ b ≠ E) G vs (ps.map tieD) ∧ (∀ (k : Nat) t s, us[k]? = some t → ps[k]? = some s → Sw t s) ∧ LHere H dl D ml (M + 2000 + ts.length + j) G ∧ G r = some (.lst ys) ∧
                    DaAll (fun b => b ≠ d ∧ b ≠ E) G ys (us.map tieD) ∧ Da (fun b => b ≠ d ∧ b ≠ E) G (.ref q') (netD ts),
                  ⟨[], [], rfl, upd_same, .nil, fun k t s _ z => (by simp at z), hL2.keep (Kp.new hE) (Nat.le_refl _), by rw [upd_ne (ne_of_none hys hE)]; exact hys, hB.fresh hE, hDa2.fresh hE⟩, fun j G _ h => ?_, ?_, ?_⟩
              · obtain ⟨_, _, _, _, _, _, _, h, _⟩ := h
                exact SqL.of h
              · rintro j x G G' hj ⟨ps, vs, lp, hEv, hvs, hsw, hL, hr, hB2, hDq⟩ ⟨rfl, hx⟩
                obtain ⟨dd, hdd, hxd⟩ := hB2.getV hx
                rw [List.getElem?_map] at hdd
                obtain ⟨t, ht, rfl⟩ := Option.map_eq_some_iff.mp hdd
                obtain ⟨pq, rfl, ⟨pd, pE⟩, hpq⟩ := Da.ints_inv (ns := [t.1, t.2]) hxd
                have hpq : G' pq = some (.lst [.int t.1, .int t.2]) := hpq
                have Ed : E ≠ d := fun z => (hL2.ds d din).2.2.2.ne (by rw [← z]; exact hE)
                have lv : vs.length = j := by rw [hvs.length, List.length_map, lp]
                walk_at "go"
                refine g_kLg rfl ?_
                walk_at "go"
                refine ⟨d, M + 2000 + ts.length + j, rfl, (hL.ds d din).2.2.2, by omega, fun rr G3 r0 r1 hk3 hdr3 => ?_⟩
                have hL3 := hL.step hk3 hdr3 (by omega) d1 d2 d3
                have hE3 : G3 E = some (.lst vs) := hk3.lst (nin1 Ed) hEv
                have hr3 : G3 r = some (.lst ys) := hk3.lst (nin1 rd) hr
                have hpq3 : G3 pq = some (.lst [.int t.1, .int t.2]) := hk3.lst (nin1 pd) hpq
                have hvs3 := hvs.keep hk3 (fun b hb => nin1 hb.1) fun _ h => h
                have hB3 := hB2.keep hk3 (fun b hb => nin1 hb.1) fun _ h => h
                have hDq3 := hDq.keep hk3 (fun b hb => nin1 hb.1) fun _ h => h
                -- the new pair, laid at e
                have put : ∀ (s : Tie) (e : Addr), Sw t s → G3 e = none → kLe E (fun G => ∃ (ps : List Tie) (vs : List V), ps.length = j + 1 ∧ G E = some (.lst vs) ∧ DaAll (fun b => b ≠ d ∧ b ≠ E) G vs (ps.map tieD) ∧ (∀ (k : Nat) t s, us[k]? = some t → ps[k]? = some s → Sw t s) ∧ LHere H dl D ml (M + 2000 + ts.length + (j + 1)) G ∧ G r = some (.lst ys) ∧
                    DaAll (fun b => b ≠ d ∧ b ≠ E) G ys (us.map tieD) ∧ Da (fun b => b ≠ d ∧ b ≠ E) G (.ref q') (netD ts)) (.ref e) (upd G3 e (.lst [.int s.1, .int s.2])) := fun s e hs he => by
                  have eE : e ≠ E := fun z => by rw [z, hE3] at he; cases he
                  have ed : e ≠ d := fun z => hdr3.ne (by rw [← z]; exact he)
                  have hE4 : (upd G3 e (.lst [.int s.1, .int s.2])) E = some (.lst vs) := by rw [upd_ne (Ne.symm eE)]; exact hE3
                  have kE : Kp [] G3 (upd (upd G3 e (.lst [.int s.1, .int s.2])) E (.lst (vs ++ [.ref e]))) → True := fun _ => trivial
                  refine g_kLe hE4 (triv_szl (by omega)) ⟨ps ++ [s], vs ++ [.ref e], by rw [List.length_append, lp]; rfl, upd_same, ?_, fun k t' s' h1 h2 => ?_, ?_, ?_, ?_, ?_⟩
                  · rw [List.map_append]
                    have e9 : DaAll (fun b => b ≠ d ∧ b ≠ E) (upd (upd G3 e (.lst [.int s.1, .int s.2])) E (.lst (vs ++ [.ref e]))) vs (ps.map tieD) := ((hvs3.fresh he).other fun b hb => hb.1.2).imp fun b hb => hb.1
                    exact e9.append (.cons (.lst ⟨ed, eE⟩ (by rw [upd_ne eE]; exact upd_same) (.cons (.int _) (.cons (.int _) .nil))) .nil)
                  · by_cases c : k < j
                    · rw [List.getElem?_append_left (by omega)] at h2
                      exact hsw k t' s' h1 h2
                    · have kl := (List.getElem?_eq_some_iff.mp h2).1
                      rw [List.length_append, lp, List.length_singleton] at kl
                      obtain rfl : k = j := by omega
                      rw [List.getElem?_append_right (by omega), lp, Nat.sub_self] at h2
                      rw [ht] at h1
                      cases h1
                      cases h2
                      exact hs
                  · have := hL3.keep (Kp.new (o := .lst [.int s.1, .int s.2]) he) (Nat.le_refl _)
                    refine ⟨this.kp.put (hL2.kp.free hE), ?_, ?_, fun f hf => ?_⟩
                    · rw [upd_ne (ne_of_none hL2.l hE)]; exact this.l
                    · rw [upd_ne (ne_of_none hL2.m hE)]; exact this.m
                    · obtain ⟨a1, a2, a3, a4⟩ := this.ds f hf
                      exact ⟨a1, a2, a3, a4.put fun z => (hL2.ds f hf).2.2.2.ne (by rw [z]; exact hE)⟩
                  · rw [upd_ne (ne_of_none hys hE), upd_ne (ne_of_none hr3 he)]; exact hr3
                  · exact ((hB3.fresh he).other fun b hb => hb.1.2).imp fun b hb => hb.1
                  · exact ((hDq3.fresh he).other fun b hb => hb.1.2).imp fun b hb => hb.1
                clear hL3 hE3 hr3 hvs3 hB3 hDq3 hL hr hB2 hDq hvs hEv
                walk_at "go"
                refine g_kD (fun c => ?_) (fun c => ?_)
                · walk_at "go"
                  refine g_kRv hpq3 fun e he => ?_
                  exact put (t.2, t.1) e (.inr rfl) he
                · walk_at "go"
                  rename_i e he
                  exact put t e (.inl rfl) he
              · rintro G ⟨ps, vs, lp, hEv, hvs, hsw, hL, hr, hB2, hDq⟩
                rw [ly] at lp hL
                have hSp := hSu.turn (lp.trans lu.symm) hsw
                have Ed : E ≠ d := fun z => (hL2.ds d din).2.2.2.ne (by rw [← z]; exact hE)
                have nt1 : Nt G (.ref q') ts := hDq.imp fun _ _ => trivial
                have nt2 : Nt G (.ref E) ps := .lst trivial hEv (hvs.imp fun _ _ => trivial)
                clear hL2 hDa2 hB hys hE G2
                walk_at "go"
                refine ⟨n, ts, .ref q', rfl, n3, n40, hS, nt1, hL.kp.tabs hT, fun G3 hK3 => ?_⟩
                walk_at "go"
                refine ⟨n, ps, .ref E, rfl, n3, n40, hSp, Nt.kp nt2 hK3, (hL.kp.trans hK3).tabs hT, fun G4 hK4 => ?_⟩
                walk_at "go"
                have hL4 := hL.keep (hK3.trans hK4) (M' := 20000 * i + 6000 * (j + 1)) (by omega)
                exact ⟨_, _, _, _, rfl, hL4.kp, hL4.l, hL4.m, hL4.ds⟩
          · rintro σ' G ⟨x2, x3, x4, x5, rfl, hK, hl, hm, hds⟩
            walk_at "go"
            exact ⟨_, _, _, _, _, rfl, hK, hl, fun e he => ⟨(hds e he).1, (hds e he).2.1, (hds e he).2.2.2.mono (by simp; omega)⟩⟩
        · rintro σ' G ⟨x1, x2, x3, x4, x5, rfl, hK, _⟩
          walk_at "go"
          exact ⟨_, _, _, _, _, rfl, hK⟩
    · rintro σ' G ⟨x1, x2, x3, x4, x5, rfl, hK⟩
      refine g_cut (fun σ' G => ∃ rp, σ' = [some (.ref a), x1, x2, x3, x4, x5, some (.ref rp), none, none, none, none] ∧ Kp [] H G ∧ Nt G (.ref rp) rowT) ?_ ?_
      · walk_at "go"
        refine g_lc walk_range (w0 := [some (.ref a), x1, x2, x3, x4, x5, none, none, none, none, none]) rfl fun D hD =>
          ⟨fun j G => ∃ vs, G D = some (.lst vs) ∧ vs.length = j ∧ DaAll (fun b => b ≠ D) G vs ((rowT.take j).map tieD) ∧ Kp [] H G, ⟨[], upd_same, rfl, .nil, hK.put (hK.free hD)⟩, fun _ _ _ _ => trivial, ?_, ?_⟩
        · rintro j x G1 G' hj ⟨vs, hv, hl, hA, hK1⟩ ⟨rfl, rfl⟩
          have hj : j < 39 := hj
          walk_at "go"
          refine g_kLg rfl ?_
          walk_at "go"
          rename_i e he
          refine g_kLe (acc := vs) (by rw [upd_ne (ne_of_none hv he)]; exact hv) (triv_szl (by omega)) ⟨_, upd_same, by rw [List.length_append, hl]; rfl, ?_, (hK1.put (hK1.free he)).put (hK.free hD)⟩
          rw [show rowT.take (j + 1) = rowT.take j ++ [(1 + (j : Int), 1 + (j : Int) + 1)] by
            rw [List.take_add_one]
            unfold rowT
            rw [List.getElem?_map, List.getElem?_range hj]; rfl]
          exact pairs_more (s := (1 + (j : Int), 1 + (j : Int) + 1)) hv hA he
        · rintro G1 ⟨vs, hv, hl, hA, hK1⟩
          walk_at "go"
          exact ⟨D, rfl, hK1, .lst trivial hv (hA.imp fun _ _ => trivial)⟩
      · clear hK G
        rintro σ' G ⟨rp, rfl, hK, hrow⟩
        refine g_cut (fun σ' G => ∃ sp, σ' = [some (.ref a), x1, x2, x3, x4, x5, some (.ref rp), some (.ref sp), none, none, none] ∧ Kp [] H G ∧ Nt G (.ref rp) rowT ∧ Nt G (.ref sp) starT) ?_ ?_
        · walk_at "go"
          refine g_lc walk_range (w0 := [some (.ref a), x1, x2, x3, x4, x5, some (.ref rp), none, none, none, none]) rfl fun D hD =>
            ⟨fun j G1 => ∃ vs, G1 D = some (.lst vs) ∧ vs.length = j ∧ DaAll (fun b => b ≠ D) G1 vs ((starT.take j).map tieD) ∧ Kp [] G G1, ⟨[], upd_same, rfl, .nil, (Kp.refl _ _).put hD⟩, fun _ _ _ _ => trivial, ?_, ?_⟩
          · rintro j x G1 G' hj ⟨vs, hv, hl, hA, hK1⟩ ⟨rfl, rfl⟩
            have hj : j < 39 := hj
            walk_at "go"
            refine g_kLg rfl ?_
            walk_at "go"
            rename_i e he
            refine g_kLe (acc := vs) (by rw [upd_ne (ne_of_none hv he)]; exact hv) (triv_szl (by omega)) ⟨_, upd_same, by rw [List.length_append, hl]; rfl, ?_, (hK1.put (hK1.free he)).put hD⟩
            rw [show starT.take (j + 1) = starT.take j ++ [(40, 1 + (j : Int))] by
              rw [List.take_add_one]
              unfold starT
              rw [List.getElem?_map, List.getElem?_range hj]; rfl]
            exact pairs_more (s := (40, 1 + (j : Int))) hv hA he
          · rintro G1 ⟨vs, hv, hl, hA, hK1⟩
            walk_at "go"
            exact ⟨D, rfl, hK.trans hK1, Nt.kp hrow hK1, .lst trivial hv (hA.imp fun _ _ => trivial)⟩
        · clear hK hrow G
          rintro σ' G ⟨sp, rfl, hK, hrow, hstar⟩
          refine g_cut (fun σ' G => ∃ x4, σ' = [some (.ref a), x1, x2, x3, x4, x5, some (.ref rp), some (.ref sp), none, none, none] ∧ Kp [] H G) ?_ ?_
          · walk_at "go"
            rename_i e0 he0 pr hpr ol hol
            obtain ⟨rp', xsR, er, -, hrp, hAR⟩ := hrow.list_inv
            cases er
            have k1 : Kp [] G (upd G e0 (.lst [])) := Kp.new he0
            have k2 := Kp.new (S := []) (o := .lst [.int 1, .int 40]) hpr
            have k3 := Kp.new (S := []) (o := .lst [.ref pr]) hol
            have n0 : Nt (upd G e0 (.lst [])) (.ref e0) [] := .lst trivial upd_same .nil
            have hpr3 := k3.lst nin0 (show (upd (upd G e0 (.lst [])) pr (.lst [.int 1, .int 40])) pr = some (.lst [.int 1, .int 40]) from upd_same)
            have n3 := Nt.kp n0 (k2.trans k3)
            have kk := k1.trans (k2.trans k3)
            have hol3 : (upd (upd (upd G e0 (.lst [])) pr (.lst [.int 1, .int 40])) ol (.lst [.ref pr])) ol = some (.lst [.ref pr]) := upd_same
            generalize upd (upd (upd G e0 (.lst [])) pr (.lst [.int 1, .int 40])) ol (.lst [.ref pr]) = G3 at hpr3 n3 kk hol3 ⊢
            clear n0 k1 k2 k3 hol hpr he0
            have lR : xsR.length = 39 := by rw [hAR.length, List.length_map]; rfl
            refine g_cat (kk.lst nin0 hrp) hol3 (triv_sz (by rw [lR]; simp)) fun c hc => ?_
            have k4 := Kp.new (S := []) (o := .lst (xsR ++ [.ref pr])) hc
            have nc : Nt (upd G3 c (.lst (xsR ++ [.ref pr]))) (.ref c) (rowT ++ [(1, 40)]) := by
              refine .lst trivial upd_same ?_
              rw [List.map_append]
              exact (hAR.keep (kk.trans k4) (fun _ _ => nin0) fun _ h => h).append (.cons (.lst trivial (k4.lst nin0 hpr3) (.cons (.int _) (.cons (.int _) .nil))) .nil)
            have n4 := Nt.kp n3 k4
            have kk4 := kk.trans k4
            generalize upd G3 c (.lst (xsR ++ [.ref pr])) = G4 at nc n4 kk4 ⊢
            clear kk k4 hc n3 hpr3 hol3 G3
            have hrp4 := kk4.lst nin0 hrp
            walk_at "go"
            rename_i sl hsl q1 hq1 l1 hl1 q2 hq2 q3 hq3 l2 hl2 L hL
            have j0 := Kp.new (S := []) (o := .lst (cutV xsR none (some 20))) hsl
            have j1 := Kp.new (S := []) (o := .lst [.int 1, .int 3]) hq1
            have j2 := Kp.new (S := []) (o := .lst [.ref q1]) hl1
            have j3 := Kp.new (S := []) (o := .lst [.int 39, .int 40]) hq2
            have j4 := Kp.new (S := []) (o := .lst [.int 2, .int 40]) hq3
            have j5 := Kp.new (S := []) (o := .lst [.ref q2, .ref q3]) hl2
            have j6 := Kp.new (S := []) (o := .lst [.ref e0, .ref rp, .ref c, .ref sl, .ref l1, .ref l2, .ref sp]) hL
            have nsl := Nt.kp (show Nt (upd G4 sl (.lst (cutV xsR none (some 20)))) (.ref sl) (rowT.take 20) from .lst trivial upd_same (by
              have dd : ∀ (G' : Hp) (ws : List V), ws = xsR.take 20 → DaAll (fun _ => True) G' xsR (rowT.map tieD) → DaAll (fun _ => True) G' ws ((rowT.take 20).map tieD) := fun G' ws e h => by
                rw [e, List.map_take]; exact h.take 20
              exact dd _ _ (cut_any (i := 20) (k := 20) rfl) (hAR.keep (kk4.trans j0) (fun _ _ => nin0) fun _ h => h))) (j1.trans (j2.trans (j3.trans (j4.trans (j5.trans j6)))))
            have nl1 := Nt.kp (show Nt (upd (upd (upd G4 sl (.lst (cutV xsR none (some 20)))) q1 (.lst [.int 1, .int 3])) l1 (.lst [.ref q1])) (.ref l1) [(1, 3)] from .lst trivial upd_same (.cons (.lst trivial (j2.lst nin0 upd_same) (.cons (.int _) (.cons (.int _) .nil))) .nil)) (j3.trans (j4.trans (j5.trans j6)))
            have nl2 := Nt.kp (show Nt (upd (upd (upd (upd (upd (upd G4 sl (.lst (cutV xsR none (some 20)))) q1 (.lst [.int 1, .int 3])) l1 (.lst [.ref q1])) q2 (.lst [.int 39, .int 40])) q3 (.lst [.int 2, .int 40])) l2 (.lst [.ref q2, .ref q3])) (.ref l2) [(39, 40), (2, 40)] from
              .lst trivial upd_same (.cons (.lst trivial (j5.lst nin0 (j4.lst nin0 upd_same)) (.cons (.int _) (.cons (.int _) .nil))) (.cons (.lst trivial (j5.lst nin0 upd_same) (.cons (.int _) (.cons (.int _) .nil))) .nil))) j6
            have jj := j0.trans (j1.trans (j2.trans (j3.trans (j4.trans (j5.trans j6)))))
            have nc := Nt.kp nc jj
            have ne := Nt.kp n4 jj
            have nr := Nt.kp (Nt.kp hrow kk4) jj
            have nst := Nt.kp (Nt.kp hstar kk4) jj
            have kF := (hK.trans kk4).trans jj
            have hLL : (upd (upd (upd (upd (upd (upd (upd G4 sl (.lst (cutV xsR none (some 20)))) q1 (.lst [.int 1, .int 3])) l1 (.lst [.ref q1])) q2 (.lst [.int 39, .int 40])) q3 (.lst [.int 2, .int 40])) l2 (.lst [.ref q2, .ref q3])) L (.lst [.ref e0, .ref rp, .ref c, .ref sl, .ref l1, .ref l2, .ref sp])) L = some (.lst [.ref e0, .ref rp, .ref c, .ref sl, .ref l1, .ref l2, .ref sp]) := upd_same
            have all : ∀ x ∈ ([.ref e0, .ref rp, .ref c, .ref sl, .ref l1, .ref l2, .ref sp] : List V), ∃ ts, NetS (up 40) ts ∧ Nt (upd (upd (upd (upd (upd (upd (upd G4 sl (.lst (cutV xsR none (some 20)))) q1 (.lst [.int 1, .int 3])) l1 (.lst [.ref q1])) q2 (.lst [.int 39, .int 40])) q3 (.lst [.int 2, .int 40])) l2 (.lst [.ref q2, .ref q3])) L (.lst [.ref e0, .ref rp, .ref c, .ref sl, .ref l1, .ref l2, .ref sp])) x ts := fun x hx => by
              simp only [List.mem_cons, List.not_mem_nil, or_false] at hx
              rcases hx with rfl | rfl | rfl | rfl | rfl | rfl | rfl
              · exact ⟨_, NetS.nil _, ne⟩
              · exact ⟨_, ⟨by decide +kernel, by decide +kernel⟩, nr⟩
              · exact ⟨_, ⟨by decide +kernel, by decide +kernel⟩, nc⟩
              · exact ⟨_, ⟨by decide +kernel, by decide +kernel⟩, nsl⟩
              · exact ⟨_, ⟨by decide +kernel, by decide +kernel⟩, nl1⟩
              · exact ⟨_, ⟨by decide +kernel, by decide +kernel⟩, nl2⟩
              · exact ⟨_, ⟨by decide +kernel, by decide +kernel⟩, nst⟩
            clear nsl nl1 nl2 nc ne nr nst jj j0 j1 j2 j3 j4 j5 j6
            generalize upd (upd (upd (upd (upd (upd (upd G4 sl (.lst (cutV xsR none (some 20)))) q1 (.lst [.int 1, .int 3])) l1 (.lst [.ref q1])) q2 (.lst [.int 39, .int 40])) q3 (.lst [.int 2, .int 40])) l2 (.lst [.ref q2, .ref q3])) L (.lst [.ref e0, .ref rp, .ref c, .ref sl, .ref l1, .ref l2, .ref sp]) = F at all kF hLL ⊢
            refine g_forL (xs := [.ref e0, .ref rp, .ref c, .ref sl, .ref l1, .ref l2, .ref sp]) (fun i σ' G' => ∃ x4, σ' = [some (.ref a), x1, x2, x3, x4, x5, some (.ref rp), some (.ref sp), none, none, none] ∧ Kp [] F G')
              ⟨_, rfl, Kp.refl _ _⟩ (fun i σ' G' _ h => ?_) ?_ ?_
            · obtain ⟨_, _, h⟩ := h
              exact SqL.of (h.lst nin0 hLL)
            · rintro i x σ' G' hi ⟨x4, rfl, hG⟩
              obtain ⟨ts, t1, t2⟩ := all x (List.mem_of_getElem? hi)
              walk_at "go"
              refine ⟨40, ts, x, rfl, by decide, by decide, t1, Nt.kp t2 hG, (kF.trans hG).tabs hT, fun G2 hK2 => ?_⟩
              walk_at "go"
              exact ⟨_, rfl, hG.trans hK2⟩
            · rintro σ' G' ⟨x4, rfl, hG⟩
              walk_at "go"
              exact ⟨_, rfl, kF.trans hG⟩
          · clear hK hrow hstar G x4
            rintro σ' G ⟨x4, rfl, hK⟩
            walk_at "go"
            -- a row
            rename_i p0 h0 p1 h1 p2 h2
            have k1 := Kp.new (S := []) (o := .lst [.int 1, .int 2]) h0
            have k2 := Kp.new (S := []) (o := .lst [.int 2, .int 3]) h1
            have k3 := Kp.new (S := []) (o := .lst [.ref p0, .ref p1]) h2
            have kk := hK.trans (k1.trans (k2.trans k3))
            have nt := show Nt (upd (upd (upd G p0 (.lst [.int 1, .int 2])) p1 (.lst [.int 2, .int 3])) p2 (.lst [.ref p0, .ref p1])) (.ref p2) [(1, 2), (2, 3)] from
              .lst trivial upd_same (.cons (.lst trivial (k3.lst nin0 (k2.lst nin0 upd_same)) (.cons (.int _) (.cons (.int _) .nil))) (.cons (.lst trivial (k3.lst nin0 upd_same) (.cons (.int _) (.cons (.int _) .nil))) .nil))
            generalize upd (upd (upd G p0 (.lst [.int 1, .int 2])) p1 (.lst [.int 2, .int 3])) p2 (.lst [.ref p0, .ref p1]) = F at kk nt ⊢
            clear k1 k2 k3 h0 h1 h2 hK G
            refine ⟨3, _, _, rfl, by decide, by decide, ⟨by decide +kernel, by decide +kernel⟩, nt, kk.tabs hT, fun b G hb hG => ?_⟩
            obtain rfl : b = true := hb.mpr (by decide +kernel)
            have hK := kk.trans hG
            clear kk nt hb hG F
            walk_at "go"
            -- a ring
            rename_i p3 h0 p4 h1 p5 h2 p6 h3
            have k1 := Kp.new (S := []) (o := .lst [.int 1, .int 2]) h0
            have k2 := Kp.new (S := []) (o := .lst [.int 2, .int 3]) h1
            have k3 := Kp.new (S := []) (o := .lst [.int 1, .int 3]) h2
            have k4 := Kp.new (S := []) (o := .lst [.ref p3, .ref p4, .ref p5]) h3
            have kk := hK.trans (k1.trans (k2.trans (k3.trans k4)))
            have nt := show Nt (upd (upd (upd (upd G p3 (.lst [.int 1, .int 2])) p4 (.lst [.int 2, .int 3])) p5 (.lst [.int 1, .int 3])) p6 (.lst [.ref p3, .ref p4, .ref p5])) (.ref p6) [(1, 2), (2, 3), (1, 3)] from
              .lst trivial upd_same (.cons (.lst trivial (k4.lst nin0 (k3.lst nin0 (k2.lst nin0 upd_same))) (.cons (.int _) (.cons (.int _) .nil))) (.cons (.lst trivial (k4.lst nin0 (k3.lst nin0 upd_same)) (.cons (.int _) (.cons (.int _) .nil))) (.cons (.lst trivial (k4.lst nin0 upd_same) (.cons (.int _) (.cons (.int _) .nil))) .nil)))
            generalize upd (upd (upd (upd G p3 (.lst [.int 1, .int 2])) p4 (.lst [.int 2, .int 3])) p5 (.lst [.int 1, .int 3])) p6 (.lst [.ref p3, .ref p4, .ref p5]) = F at kk nt ⊢
            clear k1 k2 k3 k4 h0 h1 h2 h3 hK G
            refine ⟨3, _, _, rfl, by decide, by decide, ⟨by decide +kernel, by decide +kernel⟩, nt, kk.tabs hT, fun b G hb hG => ?_⟩
            obtain rfl : b = false := by
              cases b with
              | false => rfl
              | true => exact absurd (hb.mp rfl) (by decide +kernel)
            have hK := kk.trans hG
            clear kk nt hb hG F
            walk_at "go"
            -- two parts
            rename_i p7 h0 p8 h1 p9 h2
            have k1 := Kp.new (S := []) (o := .lst [.int 1, .int 2]) h0
            have k2 := Kp.new (S := []) (o := .lst [.int 3, .int 4]) h1
            have k3 := Kp.new (S := []) (o := .lst [.ref p7, .ref p8]) h2
            have kk := hK.trans (k1.trans (k2.trans k3))
            have nt := show Nt (upd (upd (upd G p7 (.lst [.int 1, .int 2])) p8 (.lst [.int 3, .int 4])) p9 (.lst [.ref p7, .ref p8])) (.ref p9) [(1, 2), (3, 4)] from
              .lst trivial upd_same (.cons (.lst trivial (k3.lst nin0 (k2.lst nin0 upd_same)) (.cons (.int _) (.cons (.int _) .nil))) (.cons (.lst trivial (k3.lst nin0 upd_same) (.cons (.int _) (.cons (.int _) .nil))) .nil))
            generalize upd (upd (upd G p7 (.lst [.int 1, .int 2])) p8 (.lst [.int 3, .int 4])) p9 (.lst [.ref p7, .ref p8]) = F at kk nt ⊢
            clear k1 k2 k3 h0 h1 h2 hK G
            refine ⟨4, _, _, rfl, by decide, by decide, ⟨by decide +kernel, by decide +kernel⟩, nt, kk.tabs hT, fun b G hb hG => ?_⟩
            obtain rfl : b = false := by
              cases b with
              | false => rfl
              | true => exact absurd (hb.mp rfl) (by decide +kernel)
            have hK := kk.trans hG
            clear kk nt hb hG F
            walk_at "go"
            rename_i pa ha0
            have kk := hK.trans (Kp.new (S := []) (o := .lst []) ha0)
            refine ⟨3, [], _, rfl, by decide, by decide, NetS.nil _, .lst trivial upd_same .nil, kk.tabs hT, fun G1 hG => ?_⟩
            have hK := kk.trans hG
            clear kk hG ha0
            walk_at "go"
            rename_i pb hb0
            have kk := hK.trans (Kp.new (S := []) (o := .lst []) hb0)
            refine ⟨3, [], _, rfl, by decide, by decide, NetS.nil _, .lst trivial upd_same .nil, kk.tabs hT, fun b G2 hb hG => ?_⟩
            obtain rfl : b = false := by
              cases b with
              | false => rfl
              | true => exact absurd (hb.mp rfl) (by decide +kernel)
            have hK := kk.trans hG
            clear kk hG hb hb0
            walk_at "go"
            rename_i q3 h0 q4 h1 q5 h2 q6 h3
            have k1 := Kp.new (S := []) (o := .lst [.int 1, .int 2]) h0
            have k2 := Kp.new (S := []) (o := .lst [.int 2, .int 3]) h1
            have k3 := Kp.new (S := []) (o := .lst [.int 1, .int 3]) h2
            have k4 := Kp.new (S := []) (o := .lst [.ref q3, .ref q4, .ref q5]) h3
            have kk := hK.trans (k1.trans (k2.trans (k3.trans k4)))
            have nt := show Nt (upd (upd (upd (upd G2 q3 (.lst [.int 1, .int 2])) q4 (.lst [.int 2, .int 3])) q5 (.lst [.int 1, .int 3])) q6 (.lst [.ref q3, .ref q4, .ref q5])) (.ref q6) [(1, 2), (2, 3), (1, 3)] from
              .lst trivial upd_same (.cons (.lst trivial (k4.lst nin0 (k3.lst nin0 (k2.lst nin0 upd_same))) (.cons (.int _) (.cons (.int _) .nil))) (.cons (.lst trivial (k4.lst nin0 (k3.lst nin0 upd_same)) (.cons (.int _) (.cons (.int _) .nil))) (.cons (.lst trivial (k4.lst nin0 upd_same) (.cons (.int _) (.cons (.int _) .nil))) .nil)))
            generalize upd (upd (upd (upd G2 q3 (.lst [.int 1, .int 2])) q4 (.lst [.int 2, .int 3])) q5 (.lst [.int 1, .int 3])) q6 (.lst [.ref q3, .ref q4, .ref q5]) = F at kk nt ⊢
            refine ⟨3, _, _, rfl, by decide, by decide, ⟨by decide +kernel, by decide +kernel⟩, nt, kk.tabs hT, fun G3 hG => ?_⟩
            have hK := kk.trans hG
            clear kk nt hG
            rw [show woodB 3 [(1, 2), (2, 3), (1, 3)] = false by decide +kernel, show woodB 3 [] = true by decide +kernel]
            walk_at "go"
            rename_i z1 hz1 z2 hz2
            have k1 := Kp.new (S := []) (o := .lst [.bl true, .bl false, .bl false]) hz1
            have k2 := Kp.new (S := []) (o := .lst [.bl true, .bl false, .bl false]) hz2
            refine ⟨.list [.bool true, .bool false, .bool false], .list [.bool true, .bool false, .bool false], .lst (SqL.of (k2.lst nin0 upd_same)) (.cons (.bl _) (.cons (.bl _) (.cons (.bl _) .nil))), .lst (SqL.of upd_same) (.cons (.bl _) (.cons (.bl _) (.cons (.bl _) .nil))), by decide +kernel, by decide +kernel, ?_⟩
            have hK := hK.trans (k1.trans k2)
            generalize upd (upd G3 z1 (.lst [.bl true, .bl false, .bl false])) z2 (.lst [.bl true, .bl false, .bl false]) = G4 at hK ⊢
            clear k1 k2 hz1 hz2
            walk_at "go"
            refine g_kX (by decide +kernel) ?_
            walk_at "go"
            -- the parts of five seats
            rename_i r1 h0 r2 h1 r3 h2
            have k1 := Kp.new (S := []) (o := .lst [.int 4, .int 2]) h0
            have k2 := Kp.new (S := []) (o := .lst [.int 5, .int 4]) h1
            have k3 := Kp.new (S := []) (o := .lst [.ref r1, .ref r2]) h2
            have kk := hK.trans (k1.trans (k2.trans k3))
            have nt := show Nt (upd (upd (upd G4 r1 (.lst [.int 4, .int 2])) r2 (.lst [.int 5, .int 4])) r3 (.lst [.ref r1, .ref r2])) (.ref r3) [(4, 2), (5, 4)] from
              .lst trivial upd_same (.cons (.lst trivial (k3.lst nin0 (k2.lst nin0 upd_same)) (.cons (.int _) (.cons (.int _) .nil))) (.cons (.lst trivial (k3.lst nin0 upd_same) (.cons (.int _) (.cons (.int _) .nil))) .nil))
            generalize upd (upd (upd G4 r1 (.lst [.int 4, .int 2])) r2 (.lst [.int 5, .int 4])) r3 (.lst [.ref r1, .ref r2]) = F5 at kk nt ⊢
            refine ⟨5, _, _, rfl, by decide, by decide, ⟨by decide +kernel, by decide +kernel⟩, nt, kk.tabs hT, fun pq G5 hG hD => ?_⟩
            have hK := kk.trans hG
            clear kk nt hG
            walk_at "go"
            rename_i u1 g1 u2 g2 u3 g3 u4 g4
            have k1 := Kp.new (S := []) (o := .lst [.int 1]) g1
            have k2 := Kp.new (S := []) (o := .lst [.int 2, .int 4, .int 5]) g2
            have k3 := Kp.new (S := []) (o := .lst [.int 3]) g3
            have k4 := Kp.new (S := []) (o := .lst [.ref u1, .ref u2, .ref u3]) g4
            have kq := k1.trans (k2.trans (k3.trans k4))
            refine ⟨listsD (partsOf 5 [(4, 2), (5, 4)]), .list [.list [.int 1], .list [.int 2, .int 4, .int 5], .list [.int 3]], (hD.keep kq (fun _ _ => nin0) fun _ h => h).dp,
              .lst (SqL.of upd_same) (.cons (.lst (SqL.of (k4.lst nin0 (k3.lst nin0 (k2.lst nin0 upd_same)))) (.cons (.int _) .nil)) (.cons (.lst (SqL.of (k4.lst nin0 (k3.lst nin0 upd_same))) (.cons (.int _) (.cons (.int _) (.cons (.int _) .nil)))) (.cons (.lst (SqL.of (k4.lst nin0 upd_same)) (.cons (.int _) .nil)) .nil))), by decide +kernel, by decide +kernel, ?_⟩
            have hK := hK.trans kq
            generalize upd (upd (upd (upd G5 u1 (.lst [.int 1])) u2 (.lst [.int 2, .int 4, .int 5])) u3 (.lst [.int 3])) u4 (.lst [.ref u1, .ref u2, .ref u3]) = G6 at hK ⊢
            clear k1 k2 k3 k4 kq g1 g2 g3 g4 hD
            rw [show PyData.eqv (listsD (partsOf 5 [(4, 2), (5, 4)])) (.list [.list [.int 1], .list [.int 2, .int 4, .int 5], .list [.int 3]]) = true by decide +kernel]
            walk_at "go"
            -- a star
            rename_i v1 h0 v2 h1 v3 h2 v4 h3
            have k1 := Kp.new (S := []) (o := .lst [.int 1, .int 2]) h0
            have k2 := Kp.new (S := []) (o := .lst [.int 1, .int 3]) h1
            have k3 := Kp.new (S := []) (o := .lst [.int 1, .int 4]) h2
            have k4 := Kp.new (S := []) (o := .lst [.ref v1, .ref v2, .ref v3]) h3
            have kk := hK.trans (k1.trans (k2.trans (k3.trans k4)))
            have nt := show Nt (upd (upd (upd (upd G6 v1 (.lst [.int 1, .int 2])) v2 (.lst [.int 1, .int 3])) v3 (.lst [.int 1, .int 4])) v4 (.lst [.ref v1, .ref v2, .ref v3])) (.ref v4) [(1, 2), (1, 3), (1, 4)] from
              .lst trivial upd_same (.cons (.lst trivial (k4.lst nin0 (k3.lst nin0 (k2.lst nin0 upd_same))) (.cons (.int _) (.cons (.int _) .nil))) (.cons (.lst trivial (k4.lst nin0 (k3.lst nin0 upd_same)) (.cons (.int _) (.cons (.int _) .nil))) (.cons (.lst trivial (k4.lst nin0 upd_same) (.cons (.int _) (.cons (.int _) .nil))) .nil)))
            generalize upd (upd (upd (upd G6 v1 (.lst [.int 1, .int 2])) v2 (.lst [.int 1, .int 3])) v3 (.lst [.int 1, .int 4])) v4 (.lst [.ref v1, .ref v2, .ref v3]) = F6 at kk nt ⊢
            refine ⟨4, _, _, rfl, by decide, by decide, ⟨by decide +kernel, by decide +kernel⟩, nt, kk.tabs hT, fun b G7 hb hG => ?_⟩
            obtain rfl : b = false := by
              cases b with
              | false => rfl
              | true => exact absurd (hb.mp rfl) (by decide +kernel)
            walk_at "go"
            exact q _
end
end Ap



namespace Ap
open PySem L2 PySem.Spec PyProof.Rows
theorem code_of_tab {K : PySem.W.Frag} {x : Str} {f c p : Addr} {oc : Value} {od : Option Addr} {fd : FuncData} {sl : Array (Option Value)} (a : PySem.W.nsIn K mainGlobals x = some (some (.ref f))) (l : K.lookup f = some ⟨oc, od, .func fd, sl⟩) (t : PySem.W.tabIn K x = some (c, p)) : fd.code = .ref c := by
  unfold PySem.W.tabIn at t
  rw [a] at t
  simp only [l] at t
  split at t
  · rename_i c' hc
    split at t
    · split at t
      · cases t; exact hc
      · cases t
    · cases t
  · cases t
theorem tab_mk {K : PySem.W.Frag} {x : Str} {f c p : Addr} {oc tc : Value} {od td : Option Addr} {fd : FuncData} {sl ts : Array (Option Value)} {tv : Array Value} (a : PySem.W.nsIn K mainGlobals x = some (some (.ref f))) (l : K.lookup f = some ⟨oc, od, .func fd, sl⟩) (e : fd.code = .ref c) (d : K.lookup c = some ⟨tc, td, .fields tv, ts⟩) (q : (tv[11]? : Option Value) = some (.ref p)) : PySem.W.tabIn K x = some (c, p) := by
  unfold PySem.W.tabIn
  rw [a]
  simp only [l, e, d, q]
theorem trip_nil : TriplesOk (#[] : Array Value).toList := by
  first | trivial | exact .nil | constructor | decide
theorem law_is {l : PySem.W.OpenLaw} {w : World} {K : PySem.W.Frag} {mg mb : Str → Option Value} {fa : Addr} {h : Heap} {q : Program} {loose : List Str} {mean : ExcName → Option Value} (X : K.In h) (T0 : PyProof.Rows.Top q loose mean mg mb h) (hfa : mg "law" = some (.ref fa))
    (z_all : PySem.W.nsIn K mainGlobals "all" = some none)
    (z_bool : PySem.W.nsIn K mainGlobals "bool" = some none)
    (z_enumerate : PySem.W.nsIn K mainGlobals "enumerate" = some none)
    (z_int : PySem.W.nsIn K mainGlobals "int" = some none)
    (z_isinstance : PySem.W.nsIn K mainGlobals "isinstance" = some none)
    (z_len : PySem.W.nsIn K mainGlobals "len" = some none)
    (z_list : PySem.W.nsIn K mainGlobals "list" = some none)
    (z_max : PySem.W.nsIn K mainGlobals "max" = some none)
    (z_min : PySem.W.nsIn K mainGlobals "min" = some none)
    (z_range : PySem.W.nsIn K mainGlobals "range" = some none)
    (z_repr : PySem.W.nsIn K mainGlobals "repr" = some none)
    (z_set : PySem.W.nsIn K mainGlobals "set" = some none)
    (z_sorted : PySem.W.nsIn K mainGlobals "sorted" = some none)
    {t_FEWEST_SEATS : Tok} (z_FEWEST_SEATS : PySem.W.nsIn K mainGlobals "FEWEST_SEATS" = some (some (.int 3 t_FEWEST_SEATS)))
    {t_MOST_SEATS : Tok} (z_MOST_SEATS : PySem.W.nsIn K mainGlobals "MOST_SEATS" = some (some (.int 40 t_MOST_SEATS)))
    {f_is_whole : Addr} {od_is_whole an_is_whole : Option Addr} {sl_is_whole : Array (Option Value)} {oc_is_whole kV_is_whole dc_is_whole pm_is_whole cd_is_whole ct_is_whole : Value}
    (a_is_whole : PySem.W.nsIn K mainGlobals "is_whole" = some (some (.ref f_is_whole))) (l_is_whole : K.lookup f_is_whole = some ⟨oc_is_whole, od_is_whole, .func (PySem.W.fnOf "is_whole" "is_whole" (defArgs s_is_whole) (defBody s_is_whole) (defScope s_is_whole) .none kV_is_whole dc_is_whole pm_is_whole an_is_whole cd_is_whole ct_is_whole), sl_is_whole⟩) (c_is_whole : PySem.W.codeIn K cd_is_whole "is_whole" = true) (k_is_whole : PySem.W.keepIn K (.ref f_is_whole) = true)
    {f_is_within : Addr} {od_is_within an_is_within : Option Addr} {sl_is_within : Array (Option Value)} {oc_is_within kV_is_within dc_is_within pm_is_within cd_is_within ct_is_within : Value}
    (a_is_within : PySem.W.nsIn K mainGlobals "is_within" = some (some (.ref f_is_within))) (l_is_within : K.lookup f_is_within = some ⟨oc_is_within, od_is_within, .func (PySem.W.fnOf "is_within" "is_within" (defArgs s_is_within) (defBody s_is_within) (defScope s_is_within) .none kV_is_within dc_is_within pm_is_within an_is_within cd_is_within ct_is_within), sl_is_within⟩) (c_is_within : PySem.W.codeIn K cd_is_within "is_within" = true) (k_is_within : PySem.W.keepIn K (.ref f_is_within) = true)
    {f_check_seats : Addr} {od_check_seats an_check_seats : Option Addr} {sl_check_seats : Array (Option Value)} {oc_check_seats kV_check_seats dc_check_seats pm_check_seats cd_check_seats ct_check_seats : Value}
    (a_check_seats : PySem.W.nsIn K mainGlobals "check_seats" = some (some (.ref f_check_seats))) (l_check_seats : K.lookup f_check_seats = some ⟨oc_check_seats, od_check_seats, .func (PySem.W.fnOf "check_seats" "check_seats" (defArgs s_check_seats) (defBody s_check_seats) (defScope s_check_seats) .none kV_check_seats dc_check_seats pm_check_seats an_check_seats cd_check_seats ct_check_seats), sl_check_seats⟩) (c_check_seats : PySem.W.codeIn K cd_check_seats "check_seats" = true) (k_check_seats : PySem.W.keepIn K (.ref f_check_seats) = true)
    {f_check_ties : Addr} {od_check_ties an_check_ties : Option Addr} {sl_check_ties : Array (Option Value)} {oc_check_ties kV_check_ties dc_check_ties pm_check_ties cd_check_ties ct_check_ties : Value}
    (a_check_ties : PySem.W.nsIn K mainGlobals "check_ties" = some (some (.ref f_check_ties))) (l_check_ties : K.lookup f_check_ties = some ⟨oc_check_ties, od_check_ties, .func (PySem.W.fnOf "check_ties" "check_ties" (defArgs s_check_ties) (defBody s_check_ties) (defScope s_check_ties) .none kV_check_ties dc_check_ties pm_check_ties an_check_ties cd_check_ties ct_check_ties), sl_check_ties⟩) (c_check_ties : PySem.W.codeIn K cd_check_ties "check_ties" = true) (k_check_ties : PySem.W.keepIn K (.ref f_check_ties) = true)
    {cc_check_ties pp_check_ties : Addr} {tc_check_ties : Value} {td_check_ties : Option Addr} {tv_check_ties : Array Value} {ts_check_ties : Array (Option Value)} {dr_check_ties : DefRec} (e_check_ties : cd_check_ties = .ref cc_check_ties) (d_check_ties : K.lookup cc_check_ties = some ⟨tc_check_ties, td_check_ties, .fields tv_check_ties, ts_check_ties⟩) (q_check_ties : (tv_check_ties[11]? : Option Value) = some (.ref pp_check_ties)) (r_check_ties : (recsOf q).find? (fun e => e.name == ("check_ties" : Str)) = some dr_check_ties) (n_check_ties : K.lookup pp_check_ties = none)
    {f_check_net : Addr} {od_check_net an_check_net : Option Addr} {sl_check_net : Array (Option Value)} {oc_check_net kV_check_net dc_check_net pm_check_net cd_check_net ct_check_net : Value}
    (a_check_net : PySem.W.nsIn K mainGlobals "check_net" = some (some (.ref f_check_net))) (l_check_net : K.lookup f_check_net = some ⟨oc_check_net, od_check_net, .func (PySem.W.fnOf "check_net" "check_net" (defArgs s_check_net) (defBody s_check_net) (defScope s_check_net) .none kV_check_net dc_check_net pm_check_net an_check_net cd_check_net ct_check_net), sl_check_net⟩) (c_check_net : PySem.W.codeIn K cd_check_net "check_net" = true) (k_check_net : PySem.W.keepIn K (.ref f_check_net) = true)
    {f_near_in : Addr} {od_near_in an_near_in : Option Addr} {sl_near_in : Array (Option Value)} {oc_near_in kV_near_in dc_near_in pm_near_in cd_near_in ct_near_in : Value}
    (a_near_in : PySem.W.nsIn K mainGlobals "near_in" = some (some (.ref f_near_in))) (l_near_in : K.lookup f_near_in = some ⟨oc_near_in, od_near_in, .func (PySem.W.fnOf "near_in" "near_in" (defArgs s_near_in) (defBody s_near_in) (defScope s_near_in) .none kV_near_in dc_near_in pm_near_in an_near_in cd_near_in ct_near_in), sl_near_in⟩) (c_near_in : PySem.W.codeIn K cd_near_in "near_in" = true) (k_near_in : PySem.W.keepIn K (.ref f_near_in) = true)
    {f_parts_in : Addr} {od_parts_in an_parts_in : Option Addr} {sl_parts_in : Array (Option Value)} {oc_parts_in kV_parts_in dc_parts_in pm_parts_in cd_parts_in ct_parts_in : Value}
    (a_parts_in : PySem.W.nsIn K mainGlobals "parts_in" = some (some (.ref f_parts_in))) (l_parts_in : K.lookup f_parts_in = some ⟨oc_parts_in, od_parts_in, .func (PySem.W.fnOf "parts_in" "parts_in" (defArgs s_parts_in) (defBody s_parts_in) (defScope s_parts_in) .none kV_parts_in dc_parts_in pm_parts_in an_parts_in cd_parts_in ct_parts_in), sl_parts_in⟩) (c_parts_in : PySem.W.codeIn K cd_parts_in "parts_in" = true) (k_parts_in : PySem.W.keepIn K (.ref f_parts_in) = true)
    {f_is_wood_in : Addr} {od_is_wood_in an_is_wood_in : Option Addr} {sl_is_wood_in : Array (Option Value)} {oc_is_wood_in kV_is_wood_in dc_is_wood_in pm_is_wood_in cd_is_wood_in ct_is_wood_in : Value}
    (a_is_wood_in : PySem.W.nsIn K mainGlobals "is_wood_in" = some (some (.ref f_is_wood_in))) (l_is_wood_in : K.lookup f_is_wood_in = some ⟨oc_is_wood_in, od_is_wood_in, .func (PySem.W.fnOf "is_wood_in" "is_wood_in" (defArgs s_is_wood_in) (defBody s_is_wood_in) (defScope s_is_wood_in) .none kV_is_wood_in dc_is_wood_in pm_is_wood_in an_is_wood_in cd_is_wood_in ct_is_wood_in), sl_is_wood_in⟩) (c_is_wood_in : PySem.W.codeIn K cd_is_wood_in "is_wood_in" = true) (k_is_wood_in : PySem.W.keepIn K (.ref f_is_wood_in) = true)
    {f_is_row_in : Addr} {od_is_row_in an_is_row_in : Option Addr} {sl_is_row_in : Array (Option Value)} {oc_is_row_in kV_is_row_in dc_is_row_in pm_is_row_in cd_is_row_in ct_is_row_in : Value}
    (a_is_row_in : PySem.W.nsIn K mainGlobals "is_row_in" = some (some (.ref f_is_row_in))) (l_is_row_in : K.lookup f_is_row_in = some ⟨oc_is_row_in, od_is_row_in, .func (PySem.W.fnOf "is_row_in" "is_row_in" (defArgs s_is_row_in) (defBody s_is_row_in) (defScope s_is_row_in) .none kV_is_row_in dc_is_row_in pm_is_row_in an_is_row_in cd_is_row_in ct_is_row_in), sl_is_row_in⟩) (c_is_row_in : PySem.W.codeIn K cd_is_row_in "is_row_in" = true) (k_is_row_in : PySem.W.keepIn K (.ref f_is_row_in) = true)
    {f_parts : Addr} {od_parts an_parts : Option Addr} {sl_parts : Array (Option Value)} {oc_parts kV_parts dc_parts pm_parts cd_parts ct_parts : Value}
    (a_parts : PySem.W.nsIn K mainGlobals "parts" = some (some (.ref f_parts))) (l_parts : K.lookup f_parts = some ⟨oc_parts, od_parts, .func (PySem.W.fnOf "parts" "parts" (defArgs s_parts) (defBody s_parts) (defScope s_parts) .none kV_parts dc_parts pm_parts an_parts cd_parts ct_parts), sl_parts⟩) (c_parts : PySem.W.codeIn K cd_parts "parts" = true) (k_parts : PySem.W.keepIn K (.ref f_parts) = true)
    {f_is_wood : Addr} {od_is_wood an_is_wood : Option Addr} {sl_is_wood : Array (Option Value)} {oc_is_wood kV_is_wood dc_is_wood pm_is_wood cd_is_wood ct_is_wood : Value}
    (a_is_wood : PySem.W.nsIn K mainGlobals "is_wood" = some (some (.ref f_is_wood))) (l_is_wood : K.lookup f_is_wood = some ⟨oc_is_wood, od_is_wood, .func (PySem.W.fnOf "is_wood" "is_wood" (defArgs s_is_wood) (defBody s_is_wood) (defScope s_is_wood) .none kV_is_wood dc_is_wood pm_is_wood an_is_wood cd_is_wood ct_is_wood), sl_is_wood⟩) (c_is_wood : PySem.W.codeIn K cd_is_wood "is_wood" = true) (k_is_wood : PySem.W.keepIn K (.ref f_is_wood) = true)
    {f_is_row : Addr} {od_is_row an_is_row : Option Addr} {sl_is_row : Array (Option Value)} {oc_is_row kV_is_row dc_is_row pm_is_row cd_is_row ct_is_row : Value}
    (a_is_row : PySem.W.nsIn K mainGlobals "is_row" = some (some (.ref f_is_row))) (l_is_row : K.lookup f_is_row = some ⟨oc_is_row, od_is_row, .func (PySem.W.fnOf "is_row" "is_row" (defArgs s_is_row) (defBody s_is_row) (defScope s_is_row) .none kV_is_row dc_is_row pm_is_row an_is_row cd_is_row ct_is_row), sl_is_row⟩) (c_is_row : PySem.W.codeIn K cd_is_row "is_row" = true) (k_is_row : PySem.W.keepIn K (.ref f_is_row) = true)
    {f_Ldraws : Addr} {od_Ldraws an_Ldraws : Option Addr} {sl_Ldraws : Array (Option Value)} {oc_Ldraws kV_Ldraws dc_Ldraws pm_Ldraws cd_Ldraws ct_Ldraws : Value}
    (a_Ldraws : PySem.W.nsIn K mainGlobals "_law_draws" = some (some (.ref f_Ldraws))) (l_Ldraws : K.lookup f_Ldraws = some ⟨oc_Ldraws, od_Ldraws, .func (PySem.W.fnOf "_law_draws" "_law_draws" (defArgs s_Ldraws) (defBody s_Ldraws) (defScope s_Ldraws) .none kV_Ldraws dc_Ldraws pm_Ldraws an_Ldraws cd_Ldraws ct_Ldraws), sl_Ldraws⟩) (c_Ldraws : PySem.W.codeIn K cd_Ldraws "_law_draws" = true) (k_Ldraws : PySem.W.keepIn K (.ref f_Ldraws) = true)
    {f_Lnext : Addr} {od_Lnext an_Lnext : Option Addr} {sl_Lnext : Array (Option Value)} {oc_Lnext kV_Lnext dc_Lnext pm_Lnext cd_Lnext ct_Lnext : Value}
    (a_Lnext : PySem.W.nsIn K mainGlobals "_law_next" = some (some (.ref f_Lnext))) (l_Lnext : K.lookup f_Lnext = some ⟨oc_Lnext, od_Lnext, .func (PySem.W.fnOf "_law_next" "_law_next" (defArgs s_Lnext) (defBody s_Lnext) (defScope s_Lnext) .none kV_Lnext dc_Lnext pm_Lnext an_Lnext cd_Lnext ct_Lnext), sl_Lnext⟩) (c_Lnext : PySem.W.codeIn K cd_Lnext "_law_next" = true) (k_Lnext : PySem.W.keepIn K (.ref f_Lnext) = true)
    {f_Lmixed : Addr} {od_Lmixed an_Lmixed : Option Addr} {sl_Lmixed : Array (Option Value)} {oc_Lmixed kV_Lmixed dc_Lmixed pm_Lmixed cd_Lmixed ct_Lmixed : Value}
    (a_Lmixed : PySem.W.nsIn K mainGlobals "_law_mixed" = some (some (.ref f_Lmixed))) (l_Lmixed : K.lookup f_Lmixed = some ⟨oc_Lmixed, od_Lmixed, .func (PySem.W.fnOf "_law_mixed" "_law_mixed" (defArgs s_Lmixed) (defBody s_Lmixed) (defScope s_Lmixed) .none kV_Lmixed dc_Lmixed pm_Lmixed an_Lmixed cd_Lmixed ct_Lmixed), sl_Lmixed⟩) (c_Lmixed : PySem.W.codeIn K cd_Lmixed "_law_mixed" = true) (k_Lmixed : PySem.W.keepIn K (.ref f_Lmixed) = true)
    {f_Lnet : Addr} {od_Lnet an_Lnet : Option Addr} {sl_Lnet : Array (Option Value)} {oc_Lnet kV_Lnet dc_Lnet pm_Lnet cd_Lnet ct_Lnet : Value}
    (a_Lnet : PySem.W.nsIn K mainGlobals "_law_net" = some (some (.ref f_Lnet))) (l_Lnet : K.lookup f_Lnet = some ⟨oc_Lnet, od_Lnet, .func (PySem.W.fnOf "_law_net" "_law_net" (defArgs s_Lnet) (defBody s_Lnet) (defScope s_Lnet) .none kV_Lnet dc_Lnet pm_Lnet an_Lnet cd_Lnet ct_Lnet), sl_Lnet⟩) (c_Lnet : PySem.W.codeIn K cd_Lnet "_law_net" = true) (k_Lnet : PySem.W.keepIn K (.ref f_Lnet) = true)
    {f_Lparts : Addr} {od_Lparts an_Lparts : Option Addr} {sl_Lparts : Array (Option Value)} {oc_Lparts kV_Lparts dc_Lparts pm_Lparts cd_Lparts ct_Lparts : Value}
    (a_Lparts : PySem.W.nsIn K mainGlobals "_law_parts" = some (some (.ref f_Lparts))) (l_Lparts : K.lookup f_Lparts = some ⟨oc_Lparts, od_Lparts, .func (PySem.W.fnOf "_law_parts" "_law_parts" (defArgs s_Lparts) (defBody s_Lparts) (defScope s_Lparts) .none kV_Lparts dc_Lparts pm_Lparts an_Lparts cd_Lparts ct_Lparts), sl_Lparts⟩) (c_Lparts : PySem.W.codeIn K cd_Lparts "_law_parts" = true) (k_Lparts : PySem.W.keepIn K (.ref f_Lparts) = true)
    {f_Lright : Addr} {od_Lright an_Lright : Option Addr} {sl_Lright : Array (Option Value)} {oc_Lright kV_Lright dc_Lright pm_Lright cd_Lright ct_Lright : Value}
    (a_Lright : PySem.W.nsIn K mainGlobals "_law_right" = some (some (.ref f_Lright))) (l_Lright : K.lookup f_Lright = some ⟨oc_Lright, od_Lright, .func (PySem.W.fnOf "_law_right" "_law_right" (defArgs s_Lright) (defBody s_Lright) (defScope s_Lright) .none kV_Lright dc_Lright pm_Lright an_Lright cd_Lright ct_Lright), sl_Lright⟩) (c_Lright : PySem.W.codeIn K cd_Lright "_law_right" = true) (k_Lright : PySem.W.keepIn K (.ref f_Lright) = true)
    {f_law : Addr} {od_law an_law : Option Addr} {sl_law : Array (Option Value)} {oc_law kV_law dc_law pm_law cd_law ct_law : Value}
    (a_law : PySem.W.nsIn K mainGlobals "law" = some (some (.ref f_law))) (l_law : K.lookup f_law = some ⟨oc_law, od_law, .func (PySem.W.fnOf "law" "law" (defArgs s_law) (defBody s_law) (defScope s_law) .none kV_law dc_law pm_law an_law cd_law ct_law), sl_law⟩) (c_law : PySem.W.codeIn K cd_law "law" = true) (k_law : PySem.W.keepIn K (.ref f_law) = true)
    : LawIs l w K CX0 8 "_law_script" mg fa h := by
  have e := hfa.symm.trans (PySem.W.mg_of X T0.g a_law)
  cases e
  have F_is_whole := fun_mk (st := s_is_whole) l_is_whole c_is_whole k_is_whole
  have b_is_whole := F_is_whole.binds (ps := ["thing"]) fun _ _ _ _ _ _ us hl => match us, hl with | [_], _ => rfl
  have F_is_within := fun_mk (st := s_is_within) l_is_within c_is_within k_is_within
  have b_is_within := F_is_within.binds (ps := ["thing", "most"]) fun _ _ _ _ _ _ us hl => match us, hl with | [_, _], _ => rfl
  have F_check_seats := fun_mk (st := s_check_seats) l_check_seats c_check_seats k_check_seats
  have b_check_seats := F_check_seats.binds (ps := ["seats"]) fun _ _ _ _ _ _ us hl => match us, hl with | [_], _ => rfl
  have t_check_ties := tab_mk a_check_ties l_check_ties e_check_ties d_check_ties q_check_ties
  have F_check_ties := fun_mk (st := s_check_ties) l_check_ties c_check_ties k_check_ties
  have b_check_ties := F_check_ties.binds (ps := ["seats", "ties"]) fun _ _ _ _ _ _ us hl => match us, hl with | [_, _], _ => rfl
  have F_check_net := fun_mk (st := s_check_net) l_check_net c_check_net k_check_net
  have b_check_net := F_check_net.binds (ps := ["seats", "ties"]) fun _ _ _ _ _ _ us hl => match us, hl with | [_, _], _ => rfl
  have F_near_in := fun_mk (st := s_near_in) l_near_in c_near_in k_near_in
  have b_near_in := F_near_in.binds (ps := ["seats", "ties"]) fun _ _ _ _ _ _ us hl => match us, hl with | [_, _], _ => rfl
  have F_parts_in := fun_mk (st := s_parts_in) l_parts_in c_parts_in k_parts_in
  have b_parts_in := F_parts_in.binds (ps := ["seats", "ties"]) fun _ _ _ _ _ _ us hl => match us, hl with | [_, _], _ => rfl
  have F_is_wood_in := fun_mk (st := s_is_wood_in) l_is_wood_in c_is_wood_in k_is_wood_in
  have b_is_wood_in := F_is_wood_in.binds (ps := ["seats", "ties"]) fun _ _ _ _ _ _ us hl => match us, hl with | [_, _], _ => rfl
  have F_is_row_in := fun_mk (st := s_is_row_in) l_is_row_in c_is_row_in k_is_row_in
  have b_is_row_in := F_is_row_in.binds (ps := ["seats", "ties"]) fun _ _ _ _ _ _ us hl => match us, hl with | [_, _], _ => rfl
  have F_parts := fun_mk (st := s_parts) l_parts c_parts k_parts
  have b_parts := F_parts.binds (ps := ["seats", "ties"]) fun _ _ _ _ _ _ us hl => match us, hl with | [_, _], _ => rfl
  have F_is_wood := fun_mk (st := s_is_wood) l_is_wood c_is_wood k_is_wood
  have b_is_wood := F_is_wood.binds (ps := ["seats", "ties"]) fun _ _ _ _ _ _ us hl => match us, hl with | [_, _], _ => rfl
  have F_is_row := fun_mk (st := s_is_row) l_is_row c_is_row k_is_row
  have b_is_row := F_is_row.binds (ps := ["seats", "ties"]) fun _ _ _ _ _ _ us hl => match us, hl with | [_, _], _ => rfl
  have F_Ldraws := fun_mk (st := s_Ldraws) l_Ldraws c_Ldraws k_Ldraws
  have b_Ldraws := F_Ldraws.binds (ps := ["_law_cell"]) fun _ _ _ _ _ _ us hl => match us, hl with | [_], _ => rfl
  have F_Lnext := fun_mk (st := s_Lnext) l_Lnext c_Lnext k_Lnext
  have b_Lnext := F_Lnext.binds (ps := ["_law_draws_here"]) fun _ _ _ _ _ _ us hl => match us, hl with | [_], _ => rfl
  have F_Lmixed := fun_mk (st := s_Lmixed) l_Lmixed c_Lmixed k_Lmixed
  have b_Lmixed := F_Lmixed.binds (ps := ["_law_draws_here", "_law_some"]) fun _ _ _ _ _ _ us hl => match us, hl with | [_, _], _ => rfl
  have F_Lnet := fun_mk (st := s_Lnet) l_Lnet c_Lnet k_Lnet
  have b_Lnet := F_Lnet.binds (ps := ["_law_draws_here", "_law_most"]) fun _ _ _ _ _ _ us hl => match us, hl with | [_, _], _ => rfl
  have F_Lparts := fun_mk (st := s_Lparts) l_Lparts c_Lparts k_Lparts
  have b_Lparts := F_Lparts.binds (ps := ["_law_seats", "_law_ties"]) fun _ _ _ _ _ _ us hl => match us, hl with | [_, _], _ => rfl
  have F_Lright := fun_mk (st := s_Lright) l_Lright c_Lright k_Lright
  have b_Lright := F_Lright.binds (ps := ["_law_seats", "_law_ties"]) fun _ _ _ _ _ _ us hl => match us, hl with | [_, _], _ => rfl
  have F_law := fun_mk (st := s_law) l_law c_law k_law
  have b_law := F_law.binds (ps := ["_law_script"]) fun _ _ _ _ _ _ us hl => match us, hl with | [_], _ => rfl
  refine ⟨PySem.W.fnOf "law" "law" (defArgs s_law) (defBody s_law) (defScope s_law) .none kV_law dc_law pm_law an_law cd_law ct_law, [(cc_check_ties, pp_check_ties)], spLaw K [pp_check_ties], fun p hp => ?_, fun p hp => ?_, fun s u => .of_eq rfl, fun H a ns hl _ hT hS => ⟨a, ns, rfl, hS, hl, fun b hb => ?_, fun _ => rfl⟩, fun base hk hn hTB => ?_⟩
  rotate_right
  · exact ok_law (base := base) {
    n_all := PySem.W.mg_none_of X T0.g z_all
    n_bool := PySem.W.mg_none_of X T0.g z_bool
    n_enumerate := PySem.W.mg_none_of X T0.g z_enumerate
    n_int := PySem.W.mg_none_of X T0.g z_int
    n_isinstance := PySem.W.mg_none_of X T0.g z_isinstance
    n_len := PySem.W.mg_none_of X T0.g z_len
    n_list := PySem.W.mg_none_of X T0.g z_list
    n_max := PySem.W.mg_none_of X T0.g z_max
    n_min := PySem.W.mg_none_of X T0.g z_min
    n_range := PySem.W.mg_none_of X T0.g z_range
    n_repr := PySem.W.mg_none_of X T0.g z_repr
    n_set := PySem.W.mg_none_of X T0.g z_set
    n_sorted := PySem.W.mg_none_of X T0.g z_sorted
    t_FEWEST_SEATS := t_FEWEST_SEATS
    v_FEWEST_SEATS := PySem.W.mg_of X T0.g z_FEWEST_SEATS
    t_MOST_SEATS := t_MOST_SEATS
    v_MOST_SEATS := PySem.W.mg_of X T0.g z_MOST_SEATS
    a_is_whole := _, fd_is_whole := _, F_is_whole := F_is_whole, m_is_whole := PySem.W.mg_of X T0.g a_is_whole, b_is_whole := b_is_whole
    a_is_within := _, fd_is_within := _, F_is_within := F_is_within, m_is_within := PySem.W.mg_of X T0.g a_is_within, b_is_within := b_is_within
    a_check_seats := _, fd_check_seats := _, F_check_seats := F_check_seats, m_check_seats := PySem.W.mg_of X T0.g a_check_seats, b_check_seats := b_check_seats
    a_check_ties := _, fd_check_ties := _, F_check_ties := F_check_ties, m_check_ties := PySem.W.mg_of X T0.g a_check_ties, b_check_ties := b_check_ties, c_check_ties := cc_check_ties, p_check_ties := pp_check_ties, k_check_ties := code_of_tab a_check_ties l_check_ties t_check_ties, TB_check_ties := hTB (cc_check_ties, pp_check_ties) (by simp)
    a_check_net := _, fd_check_net := _, F_check_net := F_check_net, m_check_net := PySem.W.mg_of X T0.g a_check_net, b_check_net := b_check_net
    a_near_in := _, fd_near_in := _, F_near_in := F_near_in, m_near_in := PySem.W.mg_of X T0.g a_near_in, b_near_in := b_near_in
    a_parts_in := _, fd_parts_in := _, F_parts_in := F_parts_in, m_parts_in := PySem.W.mg_of X T0.g a_parts_in, b_parts_in := b_parts_in
    a_is_wood_in := _, fd_is_wood_in := _, F_is_wood_in := F_is_wood_in, m_is_wood_in := PySem.W.mg_of X T0.g a_is_wood_in, b_is_wood_in := b_is_wood_in
    a_is_row_in := _, fd_is_row_in := _, F_is_row_in := F_is_row_in, m_is_row_in := PySem.W.mg_of X T0.g a_is_row_in, b_is_row_in := b_is_row_in
    a_parts := _, fd_parts := _, F_parts := F_parts, m_parts := PySem.W.mg_of X T0.g a_parts, b_parts := b_parts
    a_is_wood := _, fd_is_wood := _, F_is_wood := F_is_wood, m_is_wood := PySem.W.mg_of X T0.g a_is_wood, b_is_wood := b_is_wood
    a_is_row := _, fd_is_row := _, F_is_row := F_is_row, m_is_row := PySem.W.mg_of X T0.g a_is_row, b_is_row := b_is_row
    a_Ldraws := _, fd_Ldraws := _, F_Ldraws := F_Ldraws, m_Ldraws := PySem.W.mg_of X T0.g a_Ldraws, b_Ldraws := b_Ldraws
    a_Lnext := _, fd_Lnext := _, F_Lnext := F_Lnext, m_Lnext := PySem.W.mg_of X T0.g a_Lnext, b_Lnext := b_Lnext
    a_Lmixed := _, fd_Lmixed := _, F_Lmixed := F_Lmixed, m_Lmixed := PySem.W.mg_of X T0.g a_Lmixed, b_Lmixed := b_Lmixed
    a_Lnet := _, fd_Lnet := _, F_Lnet := F_Lnet, m_Lnet := PySem.W.mg_of X T0.g a_Lnet, b_Lnet := b_Lnet
    a_Lparts := _, fd_Lparts := _, F_Lparts := F_Lparts, m_Lparts := PySem.W.mg_of X T0.g a_Lparts, b_Lparts := b_Lparts
    a_Lright := _, fd_Lright := _, F_Lright := F_Lright, m_Lright := PySem.W.mg_of X T0.g a_Lright, b_Lright := b_Lright
    a_law := _, fd_law := _, F_law := F_law, m_law := PySem.W.mg_of X T0.g a_law, b_law := b_law
    }
  · simp only [List.mem_cons, List.not_mem_nil, or_false] at hp
    subst hp
    first | (exact PySem.W.tab_of T0 X r_check_ties t_check_ties)
  · simp only [List.mem_cons, List.not_mem_nil, or_false] at hp
    subst hp
    first | (exact n_check_ties)
  · obtain ⟨p, hp, rfl⟩ : ∃ p ∈ [(cc_check_ties, pp_check_ties)], p.2 = b := by
      simp only [List.mem_cons, List.not_mem_nil, or_false] at hb
      subst hb
      exact ⟨_, List.mem_cons_self, rfl⟩
    exact ⟨#[], hT p hp, trip_nil⟩
end Ap



open PySem PySem.W PyProof.Rows in
set_option maxRecDepth 100000 in
set_option maxHeartbeats 0 in
theorem PySem.Challenge.cw_apartcalls_k01_nets_holds : PySem.Challenge.rw_apartcalls_k01_nets.Holds := by
  w_on; o_law; k_head; (case hw => w_witness2)
  k_fill
  refine Ap.walk_g (l := PySem.Challenge.rw_apartcalls_k01_nets) (k := 8) (x := "_law_script") (CX := fun _ => L2.CX0) rfl rfl ⟨rfl, by decide, by decide⟩ (fun w h Y => PySem.W.kIn_of Y) ?F (fun _ _ _ _ _ z => z)
  case F =>
    intro w mg mb fa h loose mean Y KX T0 hmg
    refine' Ap.law_is KX T0 hmg ?z_all ?z_bool ?z_enumerate ?z_int ?z_isinstance ?z_len ?z_list ?z_max ?z_min ?z_range ?z_repr ?z_set ?z_sorted ?z_FEWEST_SEATS ?z_MOST_SEATS ?a_is_whole ?l_is_whole ?c_is_whole ?k_is_whole ?a_is_within ?l_is_within ?c_is_within ?k_is_within ?a_check_seats ?l_check_seats ?c_check_seats ?k_check_seats ?a_check_ties ?l_check_ties ?c_check_ties ?k_check_ties ?e_check_ties ?d_check_ties ?q_check_ties ?r_check_ties ?n_check_ties ?a_check_net ?l_check_net ?c_check_net ?k_check_net ?a_near_in ?l_near_in ?c_near_in ?k_near_in ?a_parts_in ?l_parts_in ?c_parts_in ?k_parts_in ?a_is_wood_in ?l_is_wood_in ?c_is_wood_in ?k_is_wood_in ?a_is_row_in ?l_is_row_in ?c_is_row_in ?k_is_row_in ?a_parts ?l_parts ?c_parts ?k_parts ?a_is_wood ?l_is_wood ?c_is_wood ?k_is_wood ?a_is_row ?l_is_row ?c_is_row ?k_is_row ?a_Ldraws ?l_Ldraws ?c_Ldraws ?k_Ldraws ?a_Lnext ?l_Lnext ?c_Lnext ?k_Lnext ?a_Lmixed ?l_Lmixed ?c_Lmixed ?k_Lmixed ?a_Lnet ?l_Lnet ?c_Lnet ?k_Lnet ?a_Lparts ?l_Lparts ?c_Lparts ?k_Lparts ?a_Lright ?l_Lright ?c_Lright ?k_Lright ?a_law ?l_law ?c_law ?k_law
    (case z_all => k_is)
    (case z_bool => k_is)
    (case z_enumerate => k_is)
    (case z_int => k_is)
    (case z_isinstance => k_is)
    (case z_len => k_is)
    (case z_list => k_is)
    (case z_max => k_is)
    (case z_min => k_is)
    (case z_range => k_is)
    (case z_repr => k_is)
    (case z_set => k_is)
    (case z_sorted => k_is)
    (case z_FEWEST_SEATS => k_is)
    (case z_MOST_SEATS => k_is)
    (case a_is_whole => k_is)
    (case l_is_whole => k_is)
    (case c_is_whole => k_is)
    (case k_is_whole => k_is)
    (case a_is_within => k_is)
    (case l_is_within => k_is)
    (case c_is_within => k_is)
    (case k_is_within => k_is)
    (case a_check_seats => k_is)
    (case l_check_seats => k_is)
    (case c_check_seats => k_is)
    (case k_check_seats => k_is)
    (case a_check_ties => k_is)
    (case l_check_ties => k_is)
    (case c_check_ties => k_is)
    (case k_check_ties => k_is)
    (case e_check_ties => rfl)
    (case d_check_ties => k_is)
    (case q_check_ties => rfl)
    (case n_check_ties => rfl)
    (case r_check_ties => rfl)
    (case a_check_net => k_is)
    (case l_check_net => k_is)
    (case c_check_net => k_is)
    (case k_check_net => k_is)
    (case a_near_in => k_is)
    (case l_near_in => k_is)
    (case c_near_in => k_is)
    (case k_near_in => k_is)
    (case a_parts_in => k_is)
    (case l_parts_in => k_is)
    (case c_parts_in => k_is)
    (case k_parts_in => k_is)
    (case a_is_wood_in => k_is)
    (case l_is_wood_in => k_is)
    (case c_is_wood_in => k_is)
    (case k_is_wood_in => k_is)
    (case a_is_row_in => k_is)
    (case l_is_row_in => k_is)
    (case c_is_row_in => k_is)
    (case k_is_row_in => k_is)
    (case a_parts => k_is)
    (case l_parts => k_is)
    (case c_parts => k_is)
    (case k_parts => k_is)
    (case a_is_wood => k_is)
    (case l_is_wood => k_is)
    (case c_is_wood => k_is)
    (case k_is_wood => k_is)
    (case a_is_row => k_is)
    (case l_is_row => k_is)
    (case c_is_row => k_is)
    (case k_is_row => k_is)
    (case a_Ldraws => k_is)
    (case l_Ldraws => k_is)
    (case c_Ldraws => k_is)
    (case k_Ldraws => k_is)
    (case a_Lnext => k_is)
    (case l_Lnext => k_is)
    (case c_Lnext => k_is)
    (case k_Lnext => k_is)
    (case a_Lmixed => k_is)
    (case l_Lmixed => k_is)
    (case c_Lmixed => k_is)
    (case k_Lmixed => k_is)
    (case a_Lnet => k_is)
    (case l_Lnet => k_is)
    (case c_Lnet => k_is)
    (case k_Lnet => k_is)
    (case a_Lparts => k_is)
    (case l_Lparts => k_is)
    (case c_Lparts => k_is)
    (case k_Lparts => k_is)
    (case a_Lright => k_is)
    (case l_Lright => k_is)
    (case c_Lright => k_is)
    (case k_Lright => k_is)
    (case a_law => k_is)
    (case l_law => k_is)
    (case c_law => k_is)
    (case k_law => k_is)

