import PyProof.Rows.All
import Wide.All
import OpenK.AllK
import Wide.FinOn
import KE.KStateDown
import HandS.ForMost
import HandS.ForExc
import HandS.Deep
import HandS.IsInst
import HandS.TupAny
import HandS.TupMul
import HandS.TupLe
import HandS.SortInts
import HandS.Style
import HandS.Flow
import HandS.Zip
import HandS.Conv
import HandS.More
import HandS.Defaults
import HandS.HeadHook1
import HandS.HeadHook2
import HandS.HeadEnd
import HandS.Head0
import HandS.Head1
import HandS.Head2
import KE.GoesMore
import PySem.Challenge.RW_permsplits_k07_whole_raised
set_option Elab.async false
set_option linter.all false
set_option maxRecDepth 100000
namespace Pm
open PySem
open PySem.Spec
open PyProof.Rows
open L2
/-! Pm: a value layer over HandS: what an expression is worth as plain data (PyData), what a statement makes of the slots. -/

abbrev D := PyData
abbrev En := List (Option D)

/-! ### data in the heap: tau is the town (a list of zeros that grows), T the addresses that may change -/
/-- the script: tracked or locked, or a written list -/
def ScrAt (K : PySem.W.Frag) (T : Addr → Prop) (H : Hp) (a : Addr) (ns : List Int) : Prop :=
  (Rd H a (.lst (ns.map V.int)) ∧ ¬ T a) ∨ ∃ (o : Obj) (its : Array Value) (n : Nat), K.lookup a = some o ∧ o.cls = .type "list" ∧ o.dict = none ∧ o.data = .seq its n ∧ its.size ≤ sizeLine ∧ Vals (ns.map V.int) its.toList
theorem ScrAt.sq {K : PySem.W.Frag} {T : Addr → Prop} {H : Hp} {a : Addr} {ns : List Int} (h : ScrAt K T H a ns) : SqL K H a (ns.map V.int) := h.imp (fun z => z.1) (fun z => z)
mutual
inductive Rp (K : PySem.W.Frag) (tau : Option Addr) (T : Addr → Prop) (H : Hp) : V → D → Prop where
  | non : Rp K tau T H .non .none
  | bl (b : Bool) : Rp K tau T H (.bl b) (.bool b)
  | int (i : Int) : Rp K tau T H (.int i) (.int i)
  | str (x : Str) : x.length ≤ sizeLine → Rp K tau T H (.str x) (.str x)
  | lst {a : Addr} {xs : List V} {ds : List D} : H a = some (.lst xs) → ¬ T a → ds.length ≤ sizeLine → RpL K tau T H xs ds → Rp K tau T H (.ref a) (.list ds)
  | tup {a : Addr} {xs : List V} {ds : List D} : H a = some (.tup xs) → ¬ T a → ds.length ≤ sizeLine → RpL K tau T H xs ds → Rp K tau T H (.ref a) (.tuple ds)
  | town {a : Addr} : tau = some a → Rp K tau T H (.ref a) (.dict [])
  | scr {a : Addr} {ns : List Int} : ScrAt K T H a ns → ns.length ≤ 63 → Rp K tau T H (.ref a) (.dict [(.none, .list (ns.map .int))])
inductive RpL (K : PySem.W.Frag) (tau : Option Addr) (T : Addr → Prop) (H : Hp) : List V → List D → Prop where
  | nil : RpL K tau T H [] []
  | cons {v : V} {vs : List V} {d : D} {ds : List D} : Rp K tau T H v d → RpL K tau T H vs ds → RpL K tau T H (v :: vs) (d :: ds)
end

/-- all cells but the town's stay -/
def Keep (tau : Option Addr) (H H' : Hp) : Prop := ∀ a o, tau ≠ some a → H a = some o → H' a = some o
/-- the town stands at n -/
def Town (tau : Option Addr) (n : Nat) (H : Hp) : Prop := ∀ a, tau = some a → H a = some (.lst (List.replicate n (.int 0)))
/-- the changing addresses: the town is one, all of them are there -/
structure Cok (tau : Option Addr) (T : Addr → Prop) (H : Hp) : Prop where
  tau : ∀ a, tau = some a → T a
  tin : ∀ a, T a → H a ≠ none

theorem Keep.refl {tau : Option Addr} (H : Hp) : Keep tau H H := fun _ _ _ h => h
theorem Keep.trans {tau : Option Addr} {H H1 H2 : Hp} (a : Keep tau H H1) (b : Keep tau H1 H2) : Keep tau H H2 := fun c o n h => b c o n (a c o n h)
theorem Keep.of_same {tau : Option Addr} {H H' : Hp} (h : Same H H') : Keep tau H H' := fun a o _ e => h a o e
theorem Town.of_same {tau : Option Addr} {n : Nat} {H H' : Hp} (h : Same H H') (t : Town tau n H) : Town tau n H' := fun a e => h a _ (t a e)
theorem Cok.keep {tau : Option Addr} {T : Addr → Prop} {n : Nat} {H H' : Hp} (c : Cok tau T H) (k : Keep tau H H') (t : Town tau n H') : Cok tau T H' := by
  refine ⟨c.tau, fun a ha => ?_⟩
  by_cases e : tau = some a
  · rw [t a e]; exact fun z => nomatch z
  · have h := c.tin a ha
    cases q : H a with
    | none => exact absurd q h
    | some o => rw [k a o e q]; exact fun z => nomatch z
theorem Cok.same {tau : Option Addr} {T : Addr → Prop} {H H' : Hp} (c : Cok tau T H) (h : Same H H') : Cok tau T H' := by
  refine ⟨c.tau, fun a ha => ?_⟩
  have z := c.tin a ha
  cases q : H a with
  | none => exact absurd q z
  | some o => rw [h a o q]; exact fun z => nomatch z
theorem same_upd {H : Hp} {p : Addr} {o : HO} (h : H p = none) : Same H (upd H p o) := fun b x e => by
  rw [upd_ne (ne_of_none e h)]
  exact e

section
variable {K : PySem.W.Frag} {tau : Option Addr} {T T' : Addr → Prop} {H H' : Hp}
mutual
/-- what does not change is found again -/
theorem Rp.move (m : ∀ a x, ¬ T a → H a = some x → H' a = some x ∧ ¬ T' a) : ∀ {v : V} {d : D}, Rp K tau T H v d → Rp K tau T' H' v d
  | _, _, .non => .non
  | _, _, .bl b => .bl b
  | _, _, .int i => .int i
  | _, _, .str x h => .str x h
  | _, _, .lst h n l r => .lst (m _ _ n h).1 (m _ _ n h).2 l (RpL.move m r)
  | _, _, .tup h n l r => .tup (m _ _ n h).1 (m _ _ n h).2 l (RpL.move m r)
  | _, _, .town e => .town e
  | _, _, .scr (a := a) (ns := ns) h l => .scr (by
      rcases h with ⟨h | ⟨o, h⟩, n⟩ | h
      · exact .inl ⟨.inl (m _ _ n h).1, (m _ _ n h).2⟩
      · exact .inl ⟨.inr ⟨o, (m _ _ n h).1⟩, (m _ _ n h).2⟩
      · exact .inr h) l
theorem RpL.move (m : ∀ a x, ¬ T a → H a = some x → H' a = some x ∧ ¬ T' a) : ∀ {vs : List V} {ds : List D}, RpL K tau T H vs ds → RpL K tau T' H' vs ds
  | _, _, .nil => .nil
  | _, _, .cons h r => .cons (Rp.move m h) (RpL.move m r)
end
theorem Rp.keep (k : Keep tau H H') (ht : ∀ a, tau = some a → T a) {v : V} {d : D} (h : Rp K tau T H v d) : Rp K tau T H' v d := h.move fun a x n e => ⟨k a x (fun z => n (ht a z)) e, n⟩
theorem RpL.keep (k : Keep tau H H') (ht : ∀ a, tau = some a → T a) {v : List V} {d : List D} (h : RpL K tau T H v d) : RpL K tau T H' v d := h.move fun a x n e => ⟨k a x (fun z => n (ht a z)) e, n⟩
theorem Rp.less (m : ∀ a, T' a → T a) {v : V} {d : D} (h : Rp K tau T H v d) : Rp K tau T' H v d := h.move fun a x n e => ⟨e, fun z => n (m a z)⟩
theorem RpL.less (m : ∀ a, T' a → T a) {v : List V} {d : List D} (h : RpL K tau T H v d) : RpL K tau T' H v d := h.move fun a x n e => ⟨e, fun z => n (m a z)⟩
theorem Rp.same (s : Same H H') (ht : ∀ a, tau = some a → T a) {v : V} {d : D} (h : Rp K tau T H v d) : Rp K tau T H' v d := h.keep (Keep.of_same s) ht
theorem RpL.same (s : Same H H') (ht : ∀ a, tau = some a → T a) {v : List V} {d : List D} (h : RpL K tau T H v d) : RpL K tau T H' v d := h.keep (Keep.of_same s) ht
theorem RpL.length : ∀ {vs : List V} {ds : List D}, RpL K tau T H vs ds → vs.length = ds.length
  | _, _, .nil => rfl
  | _, _, .cons _ r => by rw [List.length_cons, List.length_cons, RpL.length r]
theorem RpL.get : ∀ {vs : List V} {ds : List D} {i : Nat} {d : D}, RpL K tau T H vs ds → ds[i]? = some d → ∃ v, vs[i]? = some v ∧ Rp K tau T H v d
  | _, _, _, _, .nil, e => by simp at e
  | _, _, 0, _, .cons h _, e => by simp at e; subst e; exact ⟨_, rfl, h⟩
  | _, _, i + 1, d, .cons _ r, e => by
    obtain ⟨v, h1, h2⟩ := RpL.get (i := i) (d := d) r (by simpa using e)
    exact ⟨v, by simpa using h1, h2⟩
theorem RpL.get' : ∀ {vs : List V} {ds : List D} {i : Nat} {v : V}, RpL K tau T H vs ds → vs[i]? = some v → ∃ d, ds[i]? = some d ∧ Rp K tau T H v d
  | _, _, _, _, .nil, e => by simp at e
  | _, _, 0, _, .cons h _, e => by simp at e; subst e; exact ⟨_, rfl, h⟩
  | _, _, i + 1, d, .cons _ r, e => by
    obtain ⟨v, h1, h2⟩ := RpL.get' (i := i) (v := d) r (by simpa using e)
    exact ⟨v, by simpa using h1, h2⟩
theorem RpL.append : ∀ {vs ws : List V} {ds es : List D}, RpL K tau T H vs ds → RpL K tau T H ws es → RpL K tau T H (vs ++ ws) (ds ++ es)
  | _, _, _, _, .nil, s => s
  | _, _, _, _, .cons h r, s => .cons h (RpL.append r s)
theorem RpL.take : ∀ {vs : List V} {ds : List D} (n : Nat), RpL K tau T H vs ds → RpL K tau T H (vs.take n) (ds.take n)
  | _, _, 0, _ => .nil
  | _, _, _ + 1, .nil => .nil
  | _, _, n + 1, .cons h r => .cons h (RpL.take n r)
theorem RpL.drop : ∀ {vs : List V} {ds : List D} (n : Nat), RpL K tau T H vs ds → RpL K tau T H (vs.drop n) (ds.drop n)
  | _, _, 0, r => r
  | _, _, _ + 1, .nil => .nil
  | _, _, n + 1, .cons _ r => RpL.drop n r
theorem RpL.reverse {vs : List V} {ds : List D} (h : RpL K tau T H vs ds) : RpL K tau T H vs.reverse ds.reverse := by
  induction vs generalizing ds with
  | nil => cases h; exact .nil
  | cons v vs ih =>
    cases h with
    | cons h r =>
      rw [List.reverse_cons, List.reverse_cons]
      exact (ih r).append (.cons h .nil)
theorem RpL.rep {vs : List V} {ds : List D} (h : RpL K tau T H vs ds) : ∀ k : Nat, RpL K tau T H (List.replicate k vs).flatten (List.replicate k ds).flatten
  | 0 => .nil
  | k + 1 => by
    rw [List.replicate_succ, List.replicate_succ, List.flatten_cons, List.flatten_cons]
    exact h.append (RpL.rep h k)
theorem RpL.set : ∀ {vs : List V} {ds : List D} (i : Nat) {v : V} {d : D}, RpL K tau T H vs ds → Rp K tau T H v d → RpL K tau T H (vs.set i v) (ds.set i d)
  | _, _, _, _, _, .nil, _ => .nil
  | _, _, 0, _, _, .cons _ r, h => .cons h r
  | _, _, i + 1, _, _, .cons q r, h => .cons q (RpL.set i r h)
theorem RpL.dropLast {vs : List V} {ds : List D} (h : RpL K tau T H vs ds) : RpL K tau T H vs.dropLast ds.dropLast := by
  rw [List.dropLast_eq_take, List.dropLast_eq_take, h.length]
  exact h.take _
theorem RpL.ints : ∀ (ns : List Int), RpL K tau T H (ns.map V.int) (ns.map PyData.int)
  | [] => .nil
  | n :: r => .cons (.int n) (RpL.ints r)
theorem RpL.inv_ints : ∀ {ns : List Int} {vs : List V}, RpL K tau T H vs (ns.map PyData.int) → vs = ns.map V.int
  | [], _, .nil => rfl
  | n :: r, _, .cons (.int _) h => by
    rw [List.map_cons, RpL.inv_ints h]
theorem RpL.inv_bls : ∀ {ns : List Bool} {vs : List V}, RpL K tau T H vs (ns.map PyData.bool) → vs = ns.map V.bl
  | [], _, .nil => rfl
  | n :: r, _, .cons (.bl _) h => by
    rw [List.map_cons, RpL.inv_bls h]
theorem RpL.inv_strs : ∀ {ns : List Str} {vs : List V}, RpL K tau T H vs (ns.map PyData.str) → vs = ns.map V.str
  | [], _, .nil => rfl
  | n :: r, _, .cons (.str _ _) h => by
    rw [List.map_cons, RpL.inv_strs h]
mutual
theorem Rp.dp : ∀ {d : D} {v : V}, Rp K tau T H v d → d.canLay0 = true → Dp K H v d
  | _, _, .non, _ => .non
  | _, _, .bl b, _ => .bl b
  | _, _, .int i, _ => .int i
  | _, _, .str x _, _ => .str x
  | _, _, .lst h n l r, c => .lst (SqL.of h) (RpL.dp r (by rw [PyData.canLay0] at c; exact c))
  | _, _, .tup h n l r, c => .tup (SqT.of h) (RpL.dp r (by rw [PyData.canLay0] at c; exact c))
  | _, _, .town e, c => by simp [PyData.canLay0] at c
  | _, _, .scr h l, c => by simp [PyData.canLay0] at c
theorem RpL.dp : ∀ {ds : List D} {vs : List V}, RpL K tau T H vs ds → PyData.canLayAll0 ds = true → DpAll K H vs ds
  | _, _, .nil, _ => .nil
  | _, _, .cons h r, c => by
    rw [PyData.canLayAll0, Bool.and_eq_true] at c
    exact .cons (Rp.dp h c.1) (RpL.dp r c.2)
end
/-- a new cell is laid -/
theorem Cok.notIn {p : Addr} (c : Cok tau T H) (h : H p = none) : ¬ T p := fun t => c.tin p t h
end

/-! ### judgements -/
structure RE (K : PySem.W.Frag) (tau : Option Addr) (T : Addr → Prop) (env : En) (σ : L2.St) (H : Hp) : Prop where
  ok : Cok tau T H
  len : env.length = σ.length
  get : ∀ (i : Nat) (d : D), env[i]? = some (some d) → ∃ v, σ[i]? = some (some v) ∧ Rp K tau T H v d
theorem RE.keep {K : PySem.W.Frag} {tau : Option Addr} {T : Addr → Prop} {env : En} {σ : L2.St} {H H' : Hp} {n : Nat} (r : RE K tau T env σ H) (k : Keep tau H H') (t : Town tau n H') : RE K tau T env σ H' :=
  ⟨r.ok.keep k t, r.len, fun i d e => let ⟨v, h1, h2⟩ := r.get i d e; ⟨v, h1, h2.keep k r.ok.tau⟩⟩

abbrev Fe (α : Type) := En → Nat → Option (α × Nat)
abbrev FE := Fe D
def tM (K : PySem.W.Frag) (f : FE) : TE := fun σ H Q => ∃ (tau : Option Addr) (T : Addr → Prop) (env : En) (n : Nat) (d : D) (n' : Nat),
  RE K tau T env σ H ∧ Town tau n H ∧ f env n = some (d, n') ∧ ∀ v H', Keep tau H H' → Town tau n' H' → Rp K tau T H' v d → Q v H'
def tMT (K : PySem.W.Frag) (f : Fe Bool) : TT := fun σ H Q => ∃ (tau : Option Addr) (T : Addr → Prop) (env : En) (n : Nat) (d : Bool) (n' : Nat),
  RE K tau T env σ H ∧ Town tau n H ∧ f env n = some (d, n') ∧ ∀ H', Keep tau H H' → Town tau n' H' → Q d H'
def tMA (K : PySem.W.Frag) (f : Fe (List D)) : TA := fun σ H Q => ∃ (tau : Option Addr) (T : Addr → Prop) (env : En) (n : Nat) (ds : List D) (n' : Nat),
  RE K tau T env σ H ∧ Town tau n H ∧ f env n = some (ds, n') ∧ ∀ vs H', Keep tau H H' → Town tau n' H' → RpL K tau T H' vs ds → Q vs H'
def tMO (K : PySem.W.Frag) (f : Fe (Option Int)) : TO := fun σ H Q => ∃ (tau : Option Addr) (T : Addr → Prop) (env : En) (n : Nat) (d : Option Int) (n' : Nat),
  RE K tau T env σ H ∧ Town tau n H ∧ f env n = some (d, n') ∧ ∀ H', Keep tau H H' → Town tau n' H' → Q d H'
abbrev ME (X : Cx) (e : Expr) (f : FE) : Prop := PE X e (tM X.K f)
abbrev MT (X : Cx) (e : Expr) (f : Fe Bool) : Prop := PT X e (tMT X.K f)
abbrev MW (X : Cx) (e : Expr) (f : Fe Bool) : Prop := PW X e (tMT X.K f)
abbrev MA (X : Cx) (es : List Expr) (f : Fe (List D)) : Prop := PA X es (tMA X.K f)
abbrev MO (X : Cx) (e : Option Expr) (f : Fe (Option Int)) : Prop := PO X e (tMO X.K f)

section
variable {X : Cx} {e a b c : Expr} {es : List Expr} {pos : Pos}
theorem pe_imp {t t' : TE} (h : PE X e t) (i : ∀ σ H Q, t' σ H Q → t σ H Q) : PE X e t' := ⟨fun pins s σ H Q I hw => h.run pins s σ H Q I (i _ _ _ hw)⟩
theorem pt_imp {t t' : TT} (h : PT X e t) (i : ∀ σ H Q, t' σ H Q → t σ H Q) : PT X e t' := ⟨fun pins s σ H Q I hw => h.run pins s σ H Q I (i _ _ _ hw)⟩
theorem pw_imp {t t' : TT} (h : PW X e t) (i : ∀ σ H Q, t' σ H Q → t σ H Q) : PW X e t' := ⟨fun w pins s σ H Q I hw => h.run w pins s σ H Q I (i _ _ _ hw)⟩
theorem pa_imp {t t' : TA} (h : PA X es t) (i : ∀ σ H Q, t' σ H Q → t σ H Q) : PA X es t' := ⟨fun p pins s σ H Q I hw => h.run p pins s σ H Q I (i _ _ _ hw)⟩

/-! ### how a part is run -/
variable {K : PySem.W.Frag} {tau : Option Addr} {T : Addr → Prop} {env : En} {σ : L2.St} {H : Hp} {n n' : Nat}
theorem tM_run {f : FE} {d : D} {Q : VK} (R : RE K tau T env σ H) (t : Town tau n H) (e : f env n = some (d, n'))
    (h : ∀ v H', Keep tau H H' → RE K tau T env σ H' → Town tau n' H' → Rp K tau T H' v d → Q v H') : tM K f σ H Q :=
  ⟨tau, T, env, n, d, n', R, t, e, fun v H' k t' r => h v H' k (R.keep k t') t' r⟩
theorem tMT_run {f : Fe Bool} {d : Bool} {Q : Bool → Hp → Prop} (R : RE K tau T env σ H) (t : Town tau n H) (e : f env n = some (d, n'))
    (h : ∀ H', Keep tau H H' → RE K tau T env σ H' → Town tau n' H' → Q d H') : tMT K f σ H Q :=
  ⟨tau, T, env, n, d, n', R, t, e, fun H' k t' => h H' k (R.keep k t') t'⟩
theorem tMA_run {f : Fe (List D)} {d : List D} {Q : List V → Hp → Prop} (R : RE K tau T env σ H) (t : Town tau n H) (e : f env n = some (d, n'))
    (h : ∀ v H', Keep tau H H' → RE K tau T env σ H' → Town tau n' H' → RpL K tau T H' v d → Q v H') : tMA K f σ H Q :=
  ⟨tau, T, env, n, d, n', R, t, e, fun v H' k t' r => h v H' k (R.keep k t') t' r⟩
theorem tMO_run {f : Fe (Option Int)} {d : Option Int} {Q : Option Int → Hp → Prop} (R : RE K tau T env σ H) (t : Town tau n H) (e : f env n = some (d, n'))
    (h : ∀ H', Keep tau H H' → RE K tau T env σ H' → Town tau n' H' → Q d H') : tMO K f σ H Q :=
  ⟨tau, T, env, n, d, n', R, t, e, fun H' k t' => h H' k (R.keep k t') t'⟩

/-! ### the mirrors' words -/
def eVar (i : Nat) : FE := fun env n => match env[i]? with
  | some (some d) => some (d, n)
  | _ => none
def eC (d : D) : FE := fun _ n => some (d, n)
def e1 (F : D → Option D) (f : FE) : FE := fun env n => match f env n with
  | some (x, n1) => (F x).map fun d => (d, n1)
  | none => none
def e2 (F : D → D → Option D) (f g : FE) : FE := fun env n => match f env n with
  | some (x, n1) => (match g env n1 with
    | some (y, n2) => (F x y).map fun d => (d, n2)
    | none => none)
  | none => none
def eL (F : List D → Option D) (f : Fe (List D)) : FE := fun env n => match f env n with
  | some (x, n1) => (F x).map fun d => (d, n1)
  | none => none
def aNil : Fe (List D) := fun _ n => some ([], n)
def aCons (f : FE) (g : Fe (List D)) : Fe (List D) := fun env n => match f env n with
  | some (x, n1) => (match g env n1 with
    | some (y, n2) => some (x :: y, n2)
    | none => none)
  | none => none
def isB : D → Option Bool
  | .bool b => some b
  | _ => none
def bV (f : FE) : Fe Bool := fun env n => match f env n with
  | some (.bool b, n1) => some (b, n1)
  | _ => none
def bAnd (f g : Fe Bool) : Fe Bool := fun env n => match f env n with
  | some (true, n1) => g env n1
  | some (false, n1) => some (false, n1)
  | none => none
def bOr (f g : Fe Bool) : Fe Bool := fun env n => match f env n with
  | some (true, n1) => some (true, n1)
  | some (false, n1) => g env n1
  | none => none
def bNot (f : Fe Bool) : Fe Bool := fun env n => match f env n with
  | some (b, n1) => some (!b, n1)
  | none => none
def eAnd (f g : FE) : FE := fun env n => match f env n with
  | some (.bool true, n1) => g env n1
  | some (.bool false, n1) => some (.bool false, n1)
  | _ => none
def eOr (f g : FE) : FE := fun env n => match f env n with
  | some (.bool true, n1) => some (.bool true, n1)
  | some (.bool false, n1) => g env n1
  | _ => none
def eNot (f : FE) : FE := fun env n => match f env n with
  | some (.bool b, n1) => some (.bool (!b), n1)
  | _ => none
def eIf (c : Fe Bool) (f g : FE) : FE := fun env n => match c env n with
  | some (true, n1) => f env n1
  | some (false, n1) => g env n1
  | none => none
def oNone : Fe (Option Int) := fun _ n => some (none, n)
def oSome (f : FE) : Fe (Option Int) := fun env n => match f env n with
  | some (.int i, n1) => some (some i, n1)
  | _ => none
def eSl (F : D → Option Int → Option Int → Option D) (f : FE) (lo hi : Fe (Option Int)) : FE := fun env n => match f env n with
  | some (x, n1) => (match lo env n1 with
    | some (l, n2) => (match hi env n2 with
      | some (h, n3) => (F x l h).map fun d => (d, n3)
      | none => none)
    | none => none)
  | none => none
/-- a < b < c with one and the other test -/
def eChain (F G : D → D → Option D) (f g h : FE) : FE := fun env n => match f env n with
  | some (x, n1) => (match g env n1 with
    | some (y, n2) => (match F x y with
      | some (.bool true) => (match h env n2 with
        | some (z, n3) => (G y z).map fun d => (d, n3)
        | none => none)
      | some (.bool false) => some (.bool false, n2)
      | _ => none)
    | none => none)
  | none => none

/-! ### names, constants -/
theorem me_var (i : Nat) {x : Str} (h : PE X (.Name x pos) (tVar i)) : ME X (.Name x pos) (eVar i) := by
  refine pe_imp h fun σ H Q q => ?_
  obtain ⟨tau, T, env, n, d, n', R, t, e, k⟩ := q
  unfold eVar at e
  split at e
  · rename_i d' hd
    cases e
    obtain ⟨v, h1, h2⟩ := R.get i d hd
    exact ⟨v, h1, k v H (Keep.refl H) t h2⟩
  · cases e
theorem me_c {v : V} {d : D} (h : PE X e (tC v)) (r : ∀ K tau T H, Rp K tau T H v d) : ME X e (eC d) := by
  refine pe_imp h fun σ H Q q => ?_
  obtain ⟨tau, T, env, n, d', n', R, t, e, k⟩ := q
  cases e
  exact k v H (Keep.refl H) t (r _ _ _ _)
theorem me_int {i : Int} {j pos} : ME X (.Constant (.int i) j pos) (eC (.int i)) := me_c pe_int fun _ _ _ _ => .int i
theorem me_bl {b : Bool} {j pos} : ME X (.Constant (.bool b) j pos) (eC (.bool b)) := me_c pe_bl fun _ _ _ _ => .bl b
theorem me_non {j pos} : ME X (.Constant .none j pos) (eC .none) := me_c pe_non fun _ _ _ _ => .non
theorem me_str {x : Str} {j pos} (hx : x.length ≤ sizeLine := by decide) : ME X (.Constant (.str x) j pos) (eC (.str x)) := me_c pe_str fun _ _ _ _ => .str x hx
theorem me_globI {x : Str} {i : Int} {u : Value} (hg : Gl X x) (hm : X.mg x = some u) (hr : RelV (.int i) u) (hd : (x == ("__debug__" : Str)) = false := by decide) : ME X (.Name x pos) (eC (.int i)) := me_c (pe_glob hg hm hr hd) fun _ _ _ _ => .int i
theorem me_globS {x z : Str} {u : Value} (hg : Gl X x) (hm : X.mg x = some u) (hr : RelV (.str z) u) (hz : z.length ≤ sizeLine := by decide) (hd : (x == ("__debug__" : Str)) = false := by decide) : ME X (.Name x pos) (eC (.str z)) := me_c (pe_glob hg hm hr hd) fun _ _ _ _ => .str z hz

/-! ### operators by values -/
def Ok1 (K : PySem.W.Frag) (r : V → Hp → VK → Prop) (F : D → Option D) : Prop := ∀ (tau : Option Addr) (T : Addr → Prop) (H : Hp) (x : V) (d d' : D) (Q : VK), Cok tau T H → Rp K tau T H x d → F d = some d' →
  (∀ v H', Same H H' → Rp K tau T H' v d' → Q v H') → r x H Q
def Ok2 (K : PySem.W.Frag) (r : R2) (F : D → D → Option D) : Prop := ∀ (tau : Option Addr) (T : Addr → Prop) (H : Hp) (x y : V) (d1 d2 d : D) (Q : VK), Cok tau T H → Rp K tau T H x d1 → Rp K tau T H y d2 → F d1 d2 = some d →
  (∀ v H', Same H H' → Rp K tau T H' v d → Q v H') → r x y H Q
def OkL (K : PySem.W.Frag) (r : List V → Hp → VK → Prop) (F : List D → Option D) : Prop := ∀ (tau : Option Addr) (T : Addr → Prop) (H : Hp) (xs : List V) (ds : List D) (d : D) (Q : VK), Cok tau T H → RpL K tau T H xs ds → F ds = some d →
  (∀ v H', Same H H' → Rp K tau T H' v d → Q v H') → r xs H Q
def OkS (K : PySem.W.Frag) (r : V → Option Int → Option Int → Hp → VK → Prop) (F : D → Option Int → Option Int → Option D) : Prop := ∀ (tau : Option Addr) (T : Addr → Prop) (H : Hp) (x : V) (d d' : D) (lo hi : Option Int) (Q : VK), Cok tau T H → Rp K tau T H x d → F d lo hi = some d' →
  (∀ v H', Same H H' → Rp K tau T H' v d' → Q v H') → r x lo hi H Q

theorem e2_inv {F : D → D → Option D} {f g : FE} {env : En} {n n' : Nat} {d : D} (h : e2 F f g env n = some (d, n')) : ∃ x y n1, f env n = some (x, n1) ∧ g env n1 = some (y, n') ∧ F x y = some d := by
  unfold e2 at h
  split at h
  · rename_i x n1 h1
    split at h
    · rename_i y n2 h2
      cases q : F x y with
      | none => rw [q] at h; cases h
      | some z =>
        rw [q] at h
        have h3 : some (z, n2) = some (d, n') := h
        cases h3
        exact ⟨x, y, n1, h1, h2, q⟩
    · cases h
  · cases h
theorem e1_inv {F : D → Option D} {f : FE} {env : En} {n n' : Nat} {d : D} (h : e1 F f env n = some (d, n')) : ∃ x, f env n = some (x, n') ∧ F x = some d := by
  unfold e1 at h
  split at h
  · rename_i x n1 h1
    cases q : F x with
    | none => rw [q] at h; cases h
    | some z =>
      rw [q] at h
      have h3 : some (z, n1) = some (d, n') := h
      cases h3
      exact ⟨x, h1, q⟩
  · cases h
theorem eL_inv {F : List D → Option D} {f : Fe (List D)} {env : En} {n n' : Nat} {d : D} (h : eL F f env n = some (d, n')) : ∃ x, f env n = some (x, n') ∧ F x = some d := by
  unfold eL at h
  split at h
  · rename_i x n1 h1
    cases q : F x with
    | none => rw [q] at h; cases h
    | some z =>
      rw [q] at h
      have h3 : some (z, n1) = some (d, n') := h
      cases h3
      exact ⟨x, h1, q⟩
  · cases h
theorem tOp_of {r : R2} {F : D → D → Option D} {f g : FE} (hF : Ok2 K r F) : ∀ σ H Q, tM K (e2 F f g) σ H Q → tOp r (tM K f) (tM K g) σ H Q := by
  intro σ H Q q
  obtain ⟨tau, T, env, n, d, n', R, t, e, k⟩ := q
  obtain ⟨x, y, n1, h1, h2, h3⟩ := e2_inv e
  refine tM_run R t h1 fun v H1 k1 R1 t1 r1 => ?_
  refine tM_run R1 t1 h2 fun u H2 k2 R2 t2 r2 => ?_
  exact hF tau T H2 v u x y d Q R2.ok (r1.keep k2 R.ok.tau) r2 h3 fun v' H' s r3 => k v' H' ((k1.trans k2).trans (Keep.of_same s)) (t2.of_same s) r3
variable {f g h : FE}
theorem me_op {op : Operator} {r : R2} {F : D → D → Option D} (ho : OpR X (binaryOp op) r) (hF : Ok2 X.K r F) (ha : ME X a f) (hb : ME X b g) : ME X (.BinOp a op b pos) (e2 F f g) :=
  pe_imp (pe_op ho ha hb) (tOp_of hF)
theorem me_cmp {op : CmpOp} {r : R2} {F : D → D → Option D} (ho : OpR X (compareOp op) r) (hF : Ok2 X.K r F) (ha : ME X a f) (hb : ME X b g) (hm : behindInMarks op b = false) : ME X (.Compare a [op] [b] pos) (e2 F f g) :=
  pe_imp (pe_cmpR ho ha hb hm) (tOp_of hF)
theorem me_ix {r : R2} {F : D → D → Option D} (hr : IxR X r) (hF : Ok2 X.K r F) (ha : ME X a f) (hb : ME X b g) (hs : PlainIx b) : ME X (.Subscript a b pos) (e2 F f g) :=
  pe_imp (pe_ix hr ha hb hs) (tOp_of hF)
theorem me_un {op : UnaryOp} {r : V → Hp → VK → Prop} {F : D → Option D} (ho : UnR X (unaryOp op) r) (hF : Ok1 X.K r F) (ha : ME X a f) : ME X (.UnaryOp op a pos) (e1 F f) := by
  refine pe_imp (pe_un ho ha) fun σ H Q q => ?_
  obtain ⟨tau, T, env, n, d, n', R, t, e, k⟩ := q
  obtain ⟨x, h1, h3⟩ := e1_inv e
  refine tM_run R t h1 fun v H1 k1 R1 t1 r1 => ?_
  exact hF tau T H1 v x d Q R1.ok r1 h3 fun v' H' s r3 => k v' H' (k1.trans (Keep.of_same s)) (t1.of_same s) r3
/-! ### tests -/
theorem mt_val (he : ME X e f) (hp : ∀ whole, isTrue e X.env whole = (do let v ← whole; standAt e.pos; holding [v] (truthy v)) := by intro _; rfl) : MT X e (bV f) := by
  refine pt_imp (pt_val he hp) fun σ H Q q => ?_
  obtain ⟨tau, T, env, n, d, n', R, t, e, k⟩ := q
  unfold bV at e
  split at e
  · rename_i b n1 h1
    cases e
    refine tM_run R t h1 fun v H1 k1 R1 t1 r1 => ?_
    cases r1
    exact ⟨_, rfl, k H1 k1 t1⟩
  · cases e
theorem mt_cmp {op : CmpOp} {r : R2} {F : D → D → Option D} (ho : OpR X (compareOp op) r) (hF : Ok2 X.K r F) (ha : ME X a f) (hb : ME X b g) (hm : behindInMarks op b = false) : MT X (.Compare a [op] [b] pos) (bV (e2 F f g)) := by
  refine pt_imp (pt_cmpR ho ha hb hm) fun σ H Q q => ?_
  obtain ⟨tau, T, env, n, d, n', R, t, e, k⟩ := q
  unfold bV at e
  split at e
  · rename_i b n1 h1
    cases e
    refine tOp_of hF σ H _ (tM_run R t h1 fun v H1 k1 R1 t1 r1 => ?_)
    cases r1
    exact ⟨_, rfl, k H1 k1 t1⟩
  · cases e
theorem mw_and1 {f : Fe Bool} (ha : MT X a f) : MW X (.BoolOp .And [a] pos) f := pw_and1 ha
theorem mw_or1 {f : Fe Bool} (ha : MT X a f) : MW X (.BoolOp .Or [a] pos) f := pw_or1 ha
theorem mw_and {f g : Fe Bool} {rest : List Expr} (ha : MT X a f) (hb : MW X (.BoolOp .And (b :: rest) pos) g) : MW X (.BoolOp .And (a :: b :: rest) pos) (bAnd f g) := by
  refine pw_imp (pw_and ha hb) fun σ H Q q => ?_
  obtain ⟨tau, T, env, n, d, n', R, t, e, k⟩ := q
  unfold bAnd at e
  split at e
  · rename_i n1 h1
    refine tMT_run R t h1 fun H1 k1 R1 t1 => ?_
    rw [if_pos rfl]
    exact tMT_run R1 t1 e fun H2 k2 R2 t2 => k H2 (k1.trans k2) t2
  · rename_i n1 h1
    cases e
    refine tMT_run R t h1 fun H1 k1 R1 t1 => ?_
    rw [if_neg Bool.false_ne_true]
    exact k H1 k1 t1
  · cases e
theorem mw_or {f g : Fe Bool} {rest : List Expr} (ha : MT X a f) (hb : MW X (.BoolOp .Or (b :: rest) pos) g) : MW X (.BoolOp .Or (a :: b :: rest) pos) (bOr f g) := by
  refine pw_imp (pw_or ha hb) fun σ H Q q => ?_
  obtain ⟨tau, T, env, n, d, n', R, t, e, k⟩ := q
  unfold bOr at e
  split at e
  · rename_i n1 h1
    cases e
    refine tMT_run R t h1 fun H1 k1 R1 t1 => ?_
    rw [if_pos rfl]
    exact k H1 k1 t1
  · rename_i n1 h1
    refine tMT_run R t h1 fun H1 k1 R1 t1 => ?_
    rw [if_neg Bool.false_ne_true]
    exact tMT_run R1 t1 e fun H2 k2 R2 t2 => k H2 (k1.trans k2) t2
  · cases e
theorem mt_not {f : Fe Bool} (ha : MT X a f) : MT X (.UnaryOp .Not a pos) (bNot f) := by
  refine pt_imp (pt_not ha) fun σ H Q q => ?_
  obtain ⟨tau, T, env, n, d, n', R, t, e, k⟩ := q
  unfold bNot at e
  split at e
  · rename_i b n1 h1
    cases e
    exact tMT_run R t h1 fun H1 k1 R1 t1 => k H1 k1 t1
  · cases e
/-! ### and, or, not, if as values -/
theorem me_and {rest : List Expr} (ha : ME X a f) (hb : ME X (.BoolOp .And (b :: rest) pos) g) : ME X (.BoolOp .And (a :: b :: rest) pos) (eAnd f g) := by
  refine pe_imp (pe_and ha hb) fun σ H Q q => ?_
  obtain ⟨tau, T, env, n, d, n', R, t, e, k⟩ := q
  unfold eAnd at e
  split at e
  · rename_i n1 h1
    refine tM_run R t h1 fun v H1 k1 R1 t1 r1 => ?_
    cases r1
    refine ⟨true, rfl, ?_⟩
    rw [if_pos rfl]
    exact tM_run R1 t1 e fun v H2 k2 R2 t2 r2 => k v H2 (k1.trans k2) t2 r2
  · rename_i n1 h1
    cases e
    refine tM_run R t h1 fun v H1 k1 R1 t1 r1 => ?_
    cases r1
    refine ⟨false, rfl, ?_⟩
    rw [if_neg Bool.false_ne_true]
    exact k _ H1 k1 t1 (.bl false)
  · cases e
theorem me_or {rest : List Expr} (ha : ME X a f) (hb : ME X (.BoolOp .Or (b :: rest) pos) g) : ME X (.BoolOp .Or (a :: b :: rest) pos) (eOr f g) := by
  refine pe_imp (pe_or ha hb) fun σ H Q q => ?_
  obtain ⟨tau, T, env, n, d, n', R, t, e, k⟩ := q
  unfold eOr at e
  split at e
  · rename_i n1 h1
    cases e
    refine tM_run R t h1 fun v H1 k1 R1 t1 r1 => ?_
    cases r1
    refine ⟨true, rfl, ?_⟩
    rw [if_pos rfl]
    exact k _ H1 k1 t1 (.bl true)
  · rename_i n1 h1
    refine tM_run R t h1 fun v H1 k1 R1 t1 r1 => ?_
    cases r1
    refine ⟨false, rfl, ?_⟩
    rw [if_neg Bool.false_ne_true]
    exact tM_run R1 t1 e fun v H2 k2 R2 t2 r2 => k v H2 (k1.trans k2) t2 r2
  · cases e
theorem me_one {op : BoolOp} (ha : ME X a f) : ME X (.BoolOp op [a] pos) f := pe_one ha
theorem me_not (ha : ME X a f) : ME X (.UnaryOp .Not a pos) (eNot f) := by
  refine pe_imp (pe_not ha) fun σ H Q q => ?_
  obtain ⟨tau, T, env, n, d, n', R, t, e, k⟩ := q
  unfold eNot at e
  split at e
  · rename_i b n1 h1
    cases e
    refine tM_run R t h1 fun v H1 k1 R1 t1 r1 => ?_
    cases r1
    exact ⟨_, rfl, k _ H1 k1 t1 (.bl _)⟩
  · cases e
theorem me_if {fc : Fe Bool} (hc : MT X c fc) (ha : ME X a f) (hb : ME X b g) : ME X (.IfExp c a b pos) (eIf fc f g) := by
  refine pe_imp (pe_ifExp hc ha hb) fun σ H Q q => ?_
  obtain ⟨tau, T, env, n, d, n', R, t, e, k⟩ := q
  unfold eIf at e
  split at e
  · rename_i n1 h1
    refine tMT_run R t h1 fun H1 k1 R1 t1 => ?_
    rw [if_pos rfl]
    exact tM_run R1 t1 e fun v H2 k2 R2 t2 r2 => k v H2 (k1.trans k2) t2 r2
  · rename_i n1 h1
    refine tMT_run R t h1 fun H1 k1 R1 t1 => ?_
    rw [if_neg Bool.false_ne_true]
    exact tM_run R1 t1 e fun v H2 k2 R2 t2 r2 => k v H2 (k1.trans k2) t2 r2
  · cases e
/-! ### chains -/
theorem tChain_of {r r' : R2} {F G : D → D → Option D} (hF : Ok2 K r F) (hG : Ok2 K r' G) : ∀ σ H Q, tM K (eChain F G f g h) σ H Q → tChain r r' (tM K f) (tM K g) (tM K h) σ H Q := by
  intro σ H Q q
  obtain ⟨tau, T, env, n, d, n', R, t, e, k⟩ := q
  unfold eChain at e
  split at e
  · rename_i x n1 h1
    split at e
    · rename_i y n2 h2
      refine tM_run R t h1 fun v H1 k1 R1 t1 r1 => ?_
      refine tM_run R1 t1 h2 fun u H2 k2 R2 t2 r2 => ?_
      split at e
      · rename_i hb
        refine hF tau T H2 v u x y _ _ R2.ok (r1.keep k2 R.ok.tau) r2 hb fun v' H3 s r3 => ?_
        cases r3
        refine ⟨true, rfl, ?_⟩
        rw [if_pos rfl]
        split at e
        · rename_i z n3 h3
          cases qz : G y z with
          | none => rw [qz] at e; cases e
          | some w =>
            rw [qz] at e
            have e2 : some (w, n3) = some (d, n') := e
            cases e2
            have k3 := (k1.trans k2).trans (Keep.of_same (tau := tau) s)
            refine tM_run (R2.keep (Keep.of_same s) (t2.of_same s)) (t2.of_same s) h3 fun w' H4 k4 R4 t4 r4 => ?_
            exact hG tau T H4 u w' y z d Q R4.ok ((r2.same s R.ok.tau).keep k4 R.ok.tau) r4 qz fun v5 H5 s5 r5 => k v5 H5 ((k3.trans k4).trans (Keep.of_same s5)) (t4.of_same s5) r5
        · cases e
      · rename_i hb
        cases e
        refine hF tau T H2 v u x y _ _ R2.ok (r1.keep k2 R.ok.tau) r2 hb fun v' H3 s r3 => ?_
        cases r3
        refine ⟨false, rfl, ?_⟩
        rw [if_neg Bool.false_ne_true]
        exact k _ H3 ((k1.trans k2).trans (Keep.of_same s)) (t2.of_same s) (.bl false)
      · cases e
    · cases e
  · cases e
theorem me_chain {op op' : CmpOp} {r r' : R2} {F G : D → D → Option D} (ho : OpR X (compareOp op) r) (ho' : OpR X (compareOp op') r') (hF : Ok2 X.K r F) (hG : Ok2 X.K r' G) (ha : ME X a f) (hb : ME X b g) (hc : ME X c h)
    (hm : lastMarks [op, op'] [b, c] = false := by with_unfolding_all rfl) : ME X (.Compare a [op, op'] [b, c] pos) (eChain F G f g h) :=
  pe_imp (pe_chain ho ho' ha hb hc hm) (tChain_of hF hG)
theorem mt_chain {op op' : CmpOp} {r r' : R2} {F G : D → D → Option D} (ho : OpR X (compareOp op) r) (ho' : OpR X (compareOp op') r') (hF : Ok2 X.K r F) (hG : Ok2 X.K r' G) (ha : ME X a f) (hb : ME X b g) (hc : ME X c h)
    (hm : lastMarks [op, op'] [b, c] = false := by with_unfolding_all rfl) : MT X (.Compare a [op, op'] [b, c] pos) (bV (eChain F G f g h)) := by
  refine pt_imp (pt_chain ho ho' ha hb hc hm) fun σ H Q q => ?_
  obtain ⟨tau, T, env, n, d, n', R, t, e, k⟩ := q
  unfold bV at e
  split at e
  · rename_i b n1 h1
    cases e
    refine tChain_of hF hG σ H _ (tM_run R t h1 fun v H1 k1 R1 t1 r1 => ?_)
    cases r1
    exact ⟨_, rfl, k H1 k1 t1⟩
  · cases e
/-! ### arguments, displays, built-ins -/
variable {fs : Fe (List D)}
theorem ma_nil : MA X [] aNil := by
  refine pa_imp pa_nil fun σ H Q q => ?_
  obtain ⟨tau, T, env, n, d, n', R, t, e, k⟩ := q
  cases e
  exact k [] H (Keep.refl H) t .nil
theorem ma_cons (ha : ME X e f) (hr : MA X es fs) (hs : starEach (e :: es) X.env = (false, eval e X.env) :: starEach es X.env := by rfl) : MA X (e :: es) (aCons f fs) := by
  refine pa_imp (pa_cons ha hr hs) fun σ H Q q => ?_
  obtain ⟨tau, T, env, n, d, n', R, t, e, k⟩ := q
  unfold aCons at e
  split at e
  · rename_i x n1 h1
    split at e
    · rename_i y n2 h2
      cases e
      refine tM_run R t h1 fun v H1 k1 R1 t1 r1 => ?_
      refine tMA_run R1 t1 h2 fun u H2 k2 R2 t2 r2 => ?_
      exact k _ H2 (k1.trans k2) t2 (.cons (r1.keep k2 R.ok.tau) r2)
    · cases e
  · cases e
def lim : Nat := 16777216
theorem lim_eq : lim = sizeLine := by rw [sizeLine_eq]; rfl
def dTup (ds : List D) : Option D := if ds.length ≤ lim then some (.tuple ds) else none
def dLst (ds : List D) : Option D := if ds.length ≤ lim then some (.list ds) else none
theorem me_tup {x1} (h : MA X es fs) : ME X (.Tuple es x1 pos) (eL dTup fs) := by
  refine pe_imp (pe_tup h) fun σ H Q q => ?_
  obtain ⟨tau, T, env, n, d, n', R, t, e, k⟩ := q
  obtain ⟨ds, h1, h3⟩ := eL_inv e
  refine tMA_run R t h1 fun v H1 k1 R1 t1 r1 => ?_
  unfold dTup at h3
  split at h3
  · rename_i hl
    cases h3
    rw [lim_eq] at hl
    refine ⟨by rw [r1.length]; exact hl, fun p hp => ?_⟩
    have s : Same H1 (upd H1 p (.tup v)) := same_upd hp
    exact k _ _ (k1.trans (Keep.of_same s)) (t1.of_same s) (.tup upd_same (R1.ok.notIn hp) hl (r1.same s R.ok.tau))
  · cases h3
theorem me_lst (h : MA X es fs) : ME X (.List es pos) (eL dLst fs) := by
  refine pe_imp (pe_lst h) fun σ H Q q => ?_
  obtain ⟨tau, T, env, n, d, n', R, t, e, k⟩ := q
  obtain ⟨ds, h1, h3⟩ := eL_inv e
  refine tMA_run R t h1 fun v H1 k1 R1 t1 r1 => ?_
  unfold dLst at h3
  split at h3
  · rename_i hl
    cases h3
    rw [lim_eq] at hl
    refine ⟨by rw [r1.length]; exact hl, fun p hp => ?_⟩
    have s : Same H1 (upd H1 p (.lst v)) := same_upd hp
    exact k _ _ (k1.trans (Keep.of_same s)) (t1.of_same s) (.lst upd_same (R1.ok.notIn hp) hl (r1.same s R.ok.tau))
  · cases h3
theorem tCB_of {r : List V → Hp → VK → Prop} {F : List D → Option D} (hF : OkL K r F) : ∀ σ H Q, tM K (eL F fs) σ H Q → tCB r (tMA K fs) σ H Q := by
  intro σ H Q q
  obtain ⟨tau, T, env, n, d, n', R, t, e, k⟩ := q
  obtain ⟨ds, h1, h3⟩ := eL_inv e
  refine tMA_run R t h1 fun v H1 k1 R1 t1 r1 => ?_
  exact hF tau T H1 v ds d Q R1.ok r1 h3 fun v' H' s r3 => k v' H' (k1.trans (Keep.of_same s)) (t1.of_same s) r3
theorem me_callB {id : String} {x : Str} {p : Pos} {r : List V → Hp → VK → Prop} {F : List D → Option D} (hc : CallR X (.builtin id) r) (hF : OkL X.K r F) (hg : Gl X x) (hm : X.mg x = none) (hv : bootBuiltins x = some (.builtin id)) (ha : MA X (e :: es) fs)
    (hn : x ≠ "__name__" := by decide) (hdb : (x == ("__debug__" : Str)) = false := by decide) (he : starEach (e :: es) X.env = (false, eval e X.env) :: starEach es X.env := by rfl) (hpl : (backTo pos (starEach es X.env)).any (·.1) = false := by rfl) :
    ME X (.Call (.Name x p) (e :: es) [] pos) (eL F fs) := pe_imp (pe_callB hc hg hm hv ha hn hdb he hpl) (tCB_of hF)
theorem me_callTy {T : String} {x : Str} {p : Pos} {r : List V → Hp → VK → Prop} {F : List D → Option D} (hc : CallR X (.type T) r) (hF : OkL X.K r F) (hg : Gl X x) (hm : X.mg x = none) (hv : bootBuiltins x = some (.type T)) (ha : MA X (e :: es) fs)
    (hn : x ≠ "__name__" := by decide) (hdb : (x == ("__debug__" : Str)) = false := by decide) (he : starEach (e :: es) X.env = (false, eval e X.env) :: starEach es X.env := by rfl) (hpl : (backTo pos (starEach es X.env)).any (·.1) = false := by rfl) :
    ME X (.Call (.Name x p) (e :: es) [] pos) (eL F fs) := pe_imp (pe_callTy hc hg hm hv ha hn hdb he hpl) (tCB_of hF)
/-! ### slices -/
theorem mo_none : MO X none oNone := by
  refine ⟨fun pins s σ H Q I q => ?_⟩
  obtain ⟨tau, T, env, n, d, n', R, t, e, k⟩ := q
  cases e
  exact po_none.run pins s σ H Q I (k H (Keep.refl H) t)
theorem mo_some (ha : ME X e f) : MO X (some e) (oSome f) := by
  refine ⟨fun pins s σ H Q I q => (po_some ha).run pins s σ H Q I ?_⟩
  obtain ⟨tau, T, env, n, d, n', R, t, e, k⟩ := q
  unfold oSome at e
  split at e
  · rename_i i n1 h1
    cases e
    refine tM_run R t h1 fun v H1 k1 R1 t1 r1 => ?_
    cases r1
    exact ⟨_, rfl, k H1 k1 t1⟩
  · cases e
theorem me_slice {lo hi : Option Expr} {p2 : Pos} {fl fh : Fe (Option Int)} {r : V → Option Int → Option Int → Hp → VK → Prop} {F : D → Option Int → Option Int → Option D} (hr : SlR X r) (hF : OkS X.K r F) (he : ME X e f) (hl : MO X lo fl) (hu : MO X hi fh) :
    ME X (.Subscript e (.Slice lo hi none p2) pos) (eSl F f fl fh) := by
  refine pe_imp (pe_slice hr he hl hu) fun σ H Q q => ?_
  obtain ⟨tau, T, env, n, d, n', R, t, e, k⟩ := q
  unfold eSl at e
  split at e
  · rename_i x n1 h1
    split at e
    · rename_i l n2 h2
      split at e
      · rename_i u n3 h3
        cases qz : F x l u with
        | none => rw [qz] at e; cases e
        | some w =>
          rw [qz] at e
          have e2 : some (w, n3) = some (d, n') := e
          cases e2
          refine tM_run R t h1 fun v H1 k1 R1 t1 r1 => ?_
          refine tMO_run R1 t1 h2 fun H2 k2 R2 t2 => ?_
          refine tMO_run R2 t2 h3 fun H3 k3 R3 t3 => ?_
          exact hF tau T H3 v x _ l u Q R3.ok ((r1.keep k2 R.ok.tau).keep k3 R.ok.tau) qz fun v' H' s r3 => k v' H' (((k1.trans k2).trans k3).trans (Keep.of_same s)) (t3.of_same s) r3
      · cases e
    · cases e
  · cases e
end


theorem OpR.or {X : Cx} {f : Value → Value → Sem Value} {r r' : R2} (h : OpR X f r) (h' : OpR X f r') : OpR X f (fun x y H Q => r x y H Q ∨ r' x y H Q) := by
  intro pins s σ H x y v u Q I rx ry q
  rcases q with q | q
  · exact h pins s σ H x y v u Q I rx ry q
  · exact h' pins s σ H x y v u Q I rx ry q

section
variable {K : PySem.W.Frag} {tau : Option Addr} {T : Addr → Prop} {H : Hp} {xs : List V} {ds : List D} {Q : VK}
/-- a new list, a new tuple as data -/
theorem new_lst (c : Cok tau T H) (r : RpL K tau T H xs ds) (l : ds.length ≤ sizeLine) (k : ∀ v H', Same H H' → Rp K tau T H' v (.list ds) → Q v H') : ∀ p, H p = none → Q (.ref p) (upd H p (.lst xs)) := fun p hp =>
  k _ _ (same_upd hp) (.lst upd_same (c.notIn hp) l (r.same (same_upd hp) c.tau))
theorem new_tup (c : Cok tau T H) (r : RpL K tau T H xs ds) (l : ds.length ≤ sizeLine) (k : ∀ v H', Same H H' → Rp K tau T H' v (.tuple ds) → Q v H') : ∀ p, H p = none → Q (.ref p) (upd H p (.tup xs)) := fun p hp =>
  k _ _ (same_upd hp) (.tup upd_same (c.notIn hp) l (r.same (same_upd hp) c.tau))
end

/-! ### + -/
def dAdd : D → D → Option D
  | .int i, .int j => some (.int (i + j))
  | .list xs, .list ys => if xs.length + ys.length ≤ lim then some (.list (xs ++ ys)) else none
  | .tuple xs, .tuple ys => if xs.length + ys.length ≤ lim then some (.tuple (xs ++ ys)) else none
  | .str x, .str y => if x.length + y.length ≤ lim then some (.str (x ++ y)) else none
  | _, _ => none
def rAddA (K : PySem.W.Frag) : R2 := fun x y H Q => rI0 (fun i j => .int (i + j)) x y H Q ∨ rCat x y H Q ∨ rCatA K x y H Q ∨ (∃ i j, x = .str i ∧ y = .str j ∧ i.length + j.length ≤ sizeLine ∧ Q (.str (i ++ j)) H)
theorem op_addA {X : Cx} : OpR X (binaryOp .Add) (rAddA X.K) := op_add.or (op_cat.or (op_catA.or op_add_str))
theorem str_len_app (x y : Str) : (x ++ y).length = x.length + y.length := by
  show (Array.append x.cps y.cps).size = _
  simp [Str.length]
theorem ok_add (K : PySem.W.Frag) : Ok2 K (rAddA K) dAdd := by
  intro tau T H x y d1 d2 d Q c r1 r2 e k
  unfold dAdd at e
  split at e
  · cases e; cases r1; cases r2
    exact .inl ⟨_, _, rfl, rfl, k _ _ (Same.refl _) (.int _)⟩
  · split at e
    · rename_i hl
      cases e
      rw [lim_eq] at hl
      cases r1 with
      | lst h1 n1 l1 q1 =>
        cases r2 with
        | lst h2 n2 l2 q2 =>
          refine .inr (.inl ⟨_, _, _, _, rfl, rfl, h1, h2, by rw [q1.length, q2.length]; exact hl, new_lst c (q1.append q2) (by rw [List.length_append]; exact hl) k⟩)
    · cases e
  · split at e
    · rename_i hl
      cases e
      rw [lim_eq] at hl
      cases r1 with
      | tup h1 n1 l1 q1 =>
        cases r2 with
        | tup h2 n2 l2 q2 =>
          refine .inr (.inr (.inl ⟨_, _, _, _, rfl, rfl, SqT.of h1, SqT.of h2, by rw [q1.length, q2.length]; exact hl, fun z => ?_, fun _ z => ?_, fun _ _ => new_tup c (q1.append q2) (by rw [List.length_append]; exact hl) k⟩))
          · subst z
            cases q1
            exact k _ _ (Same.refl _) (.tup h2 n2 l2 q2)
          · subst z
            cases q2
            rw [List.append_nil] at k
            exact k _ _ (Same.refl _) (.tup h1 n1 l1 q1)
    · cases e
  · split at e
    · rename_i hl
      cases e
      rw [lim_eq] at hl
      cases r1; cases r2
      exact .inr (.inr (.inr ⟨_, _, rfl, rfl, hl, k _ _ (Same.refl _) (.str _ (by rw [str_len_app]; exact hl))⟩))
    · cases e
  · cases e
/-! ### ints -/
def dI2 (C : Int → Int → Bool) (g : Int → Int → Int) : D → D → Option D
  | .int i, .int j => if C i j then some (.int (g i j)) else none
  | _, _ => none
theorem ok_i2 (K : PySem.W.Frag) {C : Int → Int → Prop} {C' : Int → Int → Bool} {g : Int → Int → Int} (h : ∀ i j, C' i j = true → C i j) : Ok2 K (rI C fun i j => .int (g i j)) (dI2 C' g) := by
  intro tau T H x y d1 d2 d Q c r1 r2 e k
  unfold dI2 at e
  split at e
  · split at e
    · rename_i hc
      cases e; cases r1; cases r2
      exact ⟨_, _, rfl, rfl, h _ _ hc, k _ _ (Same.refl _) (.int _)⟩
    · cases e
  · cases e
def dSub : D → D → Option D
  | .int i, .int j => some (.int (i - j))
  | _, _ => none
theorem ok_sub (K : PySem.W.Frag) : Ok2 K (rI0 fun i j => .int (i - j)) dSub := by
  intro tau T H x y d1 d2 d Q c r1 r2 e k
  unfold dSub at e
  split at e
  · cases e; cases r1; cases r2
    exact ⟨_, _, rfl, rfl, k _ _ (Same.refl _) (.int _)⟩
  · cases e
def smallI (i : Int) : Bool := decide (-(2 ^ 64) < i) && decide (i < 2 ^ 64)
theorem smallI_ok {i : Int} (h : smallI i = true) : -(2 ^ 64) < i ∧ i < 2 ^ 64 := by
  unfold smallI at h
  rw [Bool.and_eq_true] at h
  exact ⟨of_decide_eq_true h.1, of_decide_eq_true h.2⟩
def dFdiv : D → D → Option D := dI2 (fun _ j => decide (0 < j) && decide (j < 1073741824)) (fun i j => i / j)
def dMod : D → D → Option D := dI2 (fun _ j => decide (0 < j)) (fun i j => i % j)
def dPow : D → D → Option D := dI2 (fun i j => decide (0 ≤ j) && decide (j ≤ 1000000) && decide (i.natAbs < 2 ^ 64)) (fun i j => i ^ j.toNat)
theorem ok_fdiv (K : PySem.W.Frag) : Ok2 K (rI CDiv fun i j => .int (i / j)) dFdiv := ok_i2 K fun i j h => by
  rw [Bool.and_eq_true] at h
  exact ⟨of_decide_eq_true h.1, of_decide_eq_true h.2⟩
theorem ok_mod (K : PySem.W.Frag) : Ok2 K (rI (fun _ j => 0 < j) fun i j => .int (i % j)) dMod := ok_i2 K fun i j h => of_decide_eq_true h
theorem ok_pow (K : PySem.W.Frag) : Ok2 K (rI CPow fun i j => .int (i ^ j.toNat)) dPow := ok_i2 K fun i j h => by
  rw [Bool.and_eq_true, Bool.and_eq_true] at h
  exact ⟨of_decide_eq_true h.1.1, of_decide_eq_true h.1.2, of_decide_eq_true h.2⟩
def dNeg : D → Option D
  | .int i => some (.int (-i))
  | _ => none
theorem ok_neg (K : PySem.W.Frag) : Ok1 K (rU fun i => .int (-i)) dNeg := by
  intro tau T H x d d' Q c r e k
  unfold dNeg at e
  split at e
  · cases e; cases r
    exact ⟨_, rfl, k _ _ (Same.refl _) (.int _)⟩
  · cases e
/-! ### * : ints, list * int, tuple * int -/
def dMul : D → D → Option D
  | .int i, .int j => if smallI i || smallI j then some (.int (i * j)) else none
  | .list xs, .int k => if decide (k < 2 ^ 63) && decide (-(2 ^ 63) ≤ k) && decide (xs.length * k.toNat ≤ lim) then some (.list (List.replicate k.toNat xs).flatten) else none
  | .tuple xs, .int k => if !xs.isEmpty && decide (0 ≤ k) && decide (k ≤ 1000) && decide (xs.length ≤ 1000) then some (.tuple (List.replicate k.toNat xs).flatten) else none
  | _, _ => none
/-- t * 0, t * 1 -/
def rRepT01 (K : PySem.W.Frag) : R2 := fun x y H Q => ∃ l k xs, x = .ref l ∧ y = .int k ∧ SqT K H l xs ∧ xs ≠ [] ∧ ((k = 1 ∧ Q (.ref l) H) ∨ (k = 0 ∧ ∀ p, H p = none → Q (.ref p) (upd H p (.tup []))))

section
variable {X : Cx}
theorem tuple_mul0 (l : Addr) (items : Array Value) (n : Nat) (dd : Option Addr) (sl : Array (Option Value)) (x : Int) (u : Tok) (hx : x = 0) (c1 : (items.isEmpty || x == 1) = false) :
    Meets (Builtin.«tuple.__mul__» ⟨[.ref l, .int x u], []⟩) (fun _ R s => s.heap.get? l = some { cls := .type "tuple", dict := dd, data := .seq items n, slots := sl } ∧
      R (.ok (.ret (Value.ref s.heap.objs.size))) { s with heap := s.heap.push { cls := Value.type "tuple", data := Data.seq #[] }, toks := s.toks }) :=
  .of_wp fun prog w A R s h => by
    obtain ⟨hp, g, d, tk, os⟩ := s
    obtain ⟨hl, h⟩ := h
    have f1 := AutoSeq1.idx_int
    subst hx
    wp_walk using wpAny_loadPart' hl
    repeat (first
      | (refine wpAny_ite_false (decide_eq_false (by rw [c1]; exact Bool.false_ne_true)) ?_; wp_walk using wpAny_loadPart' hl)
      | (refine wpAny_ite_true (decide_eq_true (by simp)) ?_; wp_walk using wpAny_loadPart' hl)
      | (refine wpAny_ite_false (decide_eq_false (by simp)) ?_; wp_walk using wpAny_loadPart' hl))
    exact ⟨_, rfl, h⟩
theorem tuple_mul1 (l : Addr) (items : Array Value) (n : Nat) (dd : Option Addr) (sl : Array (Option Value)) (x : Int) (u : Tok) (hx : x = 1) :
    Meets (Builtin.«tuple.__mul__» ⟨[.ref l, .int x u], []⟩) (fun _ R s => s.heap.get? l = some { cls := .type "tuple", dict := dd, data := .seq items n, slots := sl } ∧
      R (.ok (.ret (Value.ref l))) s) :=
  .of_wp fun prog w A R s h => by
    obtain ⟨hp, g, d, tk, os⟩ := s
    obtain ⟨hl, h⟩ := h
    have f1 := AutoSeq1.idx_int
    subst hx
    wp_walk using wpAny_loadPart' hl
    repeat (first
      | (refine wpAny_ite_true (decide_eq_true (by simp)) ?_; wp_walk using wpAny_loadPart' hl)
      | (refine wpAny_ite_false (decide_eq_false (by simp)) ?_; wp_walk using wpAny_loadPart' hl))
    exact ⟨_, rfl, h⟩
theorem op_repT01 : OpR X (binaryOp .Mult) (rRepT01 X.K) := by
  intro pins s σ H x y v u Q I rx ry h
  obtain ⟨l, k, xs, rfl, rfl, hT, hne, q⟩ := h
  cases rx
  obtain ⟨t, rfl⟩ := ry
  obtain ⟨its, r, ⟨⟨cls, dd, data, sl⟩, ho, hc, n, hd⟩, hs⟩ := I.tuple hT
  simp only at hc hd
  subst hc hd
  have hle : its.length = xs.length := r.length.symm
  have hn : its ≠ [] := fun e => hne (by
    rw [e] at hle
    exact List.eq_nil_of_length_eq_zero hle.symm)
  have hi : its.toArray.isEmpty = false := by
    cases its with
    | nil => exact absurd rfl hn
    | cons a b => rfl
  rcases q with ⟨rfl, q⟩ | ⟨rfl, q⟩
  · refine wpAny_binaryOp_repeat_ref (T := "tuple") (U := "int") (by decide) ⟨_, ho, rfl⟩ (fun s' => typeIs_int s' 1 t) noFill_tuple_mul F.fills_int_mul F.slot_int_rmul repeat_tuple F.slot_int_index.lookup
      (call_meets F.slot_int_rmul (typeIs_int s 1 t) F.entry_int_rmul (F.args_int_rmul_2 _ _) (int_rmul_tuple 1 t l its.toArray n dd sl)
        ⟨ho, rfl, ⟨_, ho, rfl⟩, call_meets F.slot_tuple_mul ⟨_, ho, rfl⟩ F.entry_tuple_mul (F.args_tuple_mul_2 _ _) (tuple_mul1 l its.toArray n dd sl 1 t rfl) ⟨ho, ?_⟩⟩)
    exact ⟨.ref l, H, I, rfl, q⟩
  · refine wpAny_binaryOp_repeat_ref (T := "tuple") (U := "int") (by decide) ⟨_, ho, rfl⟩ (fun s' => typeIs_int s' 0 t) noFill_tuple_mul F.fills_int_mul F.slot_int_rmul repeat_tuple F.slot_int_index.lookup
      (call_meets F.slot_int_rmul (typeIs_int s 0 t) F.entry_int_rmul (F.args_int_rmul_2 _ _) (int_rmul_tuple 0 t l its.toArray n dd sl)
        ⟨ho, rfl, ⟨_, ho, rfl⟩, call_meets F.slot_tuple_mul ⟨_, ho, rfl⟩ F.entry_tuple_mul (F.args_tuple_mul_2 _ _) (tuple_mul0 l its.toArray n dd sl 0 t rfl (by rw [hi]; rfl)) ⟨ho, ?_⟩⟩)
    refine ⟨.ref s.heap.objs.size, _, I.laid (t' := s.toks) (o := .tup []) (fun b ob q => Heap.get?_push_of_some _ q) (Nat.le_refl _) ?_, rfl, q _ (I.hok.fresh (Nat.le_refl _))⟩
    exact ⟨Nat.zero_le _, [], .nil, IsTup.new _ _⟩
end
def rMulA (K : PySem.W.Frag) : R2 := fun x y H Q => rI CMul (fun i j => .int (i * j)) x y H Q ∨ rRep x y H Q ∨ rRepT K x y H Q ∨ rRepT01 K x y H Q
theorem op_mulA {X : Cx} : OpR X (binaryOp .Mult) (rMulA X.K) := op_mul.or (op_rep.or (op_repT.or op_repT01))
theorem flat_rep_len {α : Type} (xs : List α) (k : Nat) : (List.replicate k xs).flatten.length = k * xs.length := by
  induction k with
  | zero => simp
  | succ k ih => rw [List.replicate_succ, List.flatten_cons, List.length_append, ih, Nat.succ_mul, Nat.add_comm]
theorem ok_mul (K : PySem.W.Frag) : Ok2 K (rMulA K) dMul := by
  intro tau T H x y d1 d2 d Q c r1 r2 e k
  unfold dMul at e
  split at e
  · split at e
    · rename_i hc
      cases e; cases r1; cases r2
      rw [Bool.or_eq_true] at hc
      exact .inl ⟨_, _, rfl, rfl, hc.imp smallI_ok smallI_ok, k _ _ (Same.refl _) (.int _)⟩
    · cases e
  · split at e
    · rename_i xs kk hc
      cases e
      rw [Bool.and_eq_true, Bool.and_eq_true] at hc
      cases r2
      have hl := of_decide_eq_true hc.2
      rw [lim_eq] at hl
      cases r1 with
      | lst h1 n1 l1 q1 =>
        refine .inr (.inl ⟨_, _, _, rfl, rfl, h1, of_decide_eq_true hc.1.2, of_decide_eq_true hc.1.1, by rw [q1.length]; exact hl, ?_⟩)
        exact new_lst c (q1.rep _) (by rw [flat_rep_len, Nat.mul_comm]; exact hl) k
    · cases e
  · split at e
    · rename_i xs kk hc
      cases e
      rw [Bool.and_eq_true, Bool.and_eq_true, Bool.and_eq_true] at hc
      obtain ⟨⟨⟨hne, h0⟩, h1⟩, h2⟩ := hc
      have h0 := of_decide_eq_true h0
      have h1 := of_decide_eq_true h1
      have h2 := of_decide_eq_true h2
      cases r2
      cases r1 with
      | tup g1 n1 l1 q1 =>
        have hx := q1.length
        have hne' : xs ≠ [] := fun z => by subst z; simp at hne
        rename_i a ys
        have hy : ys ≠ [] := fun z => by
          subst z
          rw [List.length_nil] at hx
          exact hne' (List.eq_nil_of_length_eq_zero hx.symm)
        by_cases k1 : kk = 1
        · subst k1
          refine .inr (.inr (.inr ⟨_, _, _, rfl, rfl, SqT.of g1, hy, .inl ⟨rfl, k _ _ (Same.refl _) ?_⟩⟩))
          have : (List.replicate (1 : Int).toNat xs).flatten = xs := by simp
          rw [this]
          exact .tup g1 n1 l1 q1
        · by_cases k0 : kk = 0
          · subst k0
            refine .inr (.inr (.inr ⟨_, _, _, rfl, rfl, SqT.of g1, hy, .inr ⟨rfl, new_tup (K := K) c .nil (Nat.zero_le _) ?_⟩⟩))
            have : (List.replicate (0 : Int).toNat xs).flatten = [] := by simp
            rw [this] at k
            exact k
          · refine .inr (.inr (.inl ⟨_, _, _, rfl, rfl, SqT.of g1, hy, by omega, h1, by rw [hx]; exact h2, new_tup c (q1.rep _) ?_ k⟩))
            rw [flat_rep_len, sizeLine_eq]
            have a1 : kk.toNat * xs.length ≤ 1000 * 1000 := Nat.mul_le_mul (by omega) h2
            omega
    · cases e
  · cases e
/-! ### comparisons -/
def dCmp (p : Int → Int → Bool) : D → D → Option D
  | .int i, .int j => some (.bool (p i j))
  | _, _ => none
theorem ok_cmp (K : PySem.W.Frag) {p : Int → Int → Bool} : Ok2 K (rI0 fun i j => .bl (p i j)) (dCmp p) := by
  intro tau T H x y d1 d2 d Q c r1 r2 e k
  unfold dCmp at e
  split at e
  · cases e; cases r1; cases r2
    exact ⟨_, _, rfl, rfl, k _ _ (Same.refl _) (.bl _)⟩
  · cases e
def dLt : D → D → Option D := dCmp fun i j => decide (i < j)
def dLe : D → D → Option D := dCmp fun i j => decide (i ≤ j)
def dGt : D → D → Option D := dCmp fun i j => decide (j < i)
def dGe : D → D → Option D := dCmp fun i j => decide (j ≤ i)
def dEq (d e : D) : Option D := if SeqAt.shaped d && SeqAt.shaped e then some (.bool (PyData.eqv d e)) else none
def dNe (d e : D) : Option D := if SeqAt.shaped d && SeqAt.shaped e then some (.bool (!PyData.eqv d e)) else none
theorem lay_of {d : D} (h : SeqAt.shaped d = true) : d.canLay0 = true := SeqAt.canLay_of_shaped h
theorem ok_eq (K : PySem.W.Frag) : Ok2 K (rEqD K) dEq := by
  intro tau T H x y d1 d2 d Q c r1 r2 e k
  unfold dEq at e
  split at e
  · rename_i h
    rw [Bool.and_eq_true] at h
    cases e
    exact ⟨_, _, r1.dp (lay_of h.1), r2.dp (lay_of h.2), h.1, h.2, k _ _ (Same.refl _) (.bl _)⟩
  · cases e
theorem ok_ne (K : PySem.W.Frag) : Ok2 K (rNeD K) dNe := by
  intro tau T H x y d1 d2 d Q c r1 r2 e k
  unfold dNe at e
  split at e
  · rename_i h
    rw [Bool.and_eq_true] at h
    cases e
    exact ⟨_, _, r1.dp (lay_of h.1), r2.dp (lay_of h.2), h.1, h.2, k _ _ (Same.refl _) (.bl _)⟩
  · cases e
/-- is None -/
def isNon : D → Bool
  | .none => true
  | _ => false
def dIs : D → D → Option D
  | d, .none => some (.bool (isNon d))
  | .bool a, .bool b => some (.bool (a == b))
  | _, _ => none
def dIsNot : D → D → Option D
  | d, .none => some (.bool (!isNon d))
  | .bool a, .bool b => some (.bool (!(a == b)))
  | _, _ => none
theorem isNon_eq {K : PySem.W.Frag} {tau : Option Addr} {T : Addr → Prop} {H : Hp} {v : V} {d : D} (r : Rp K tau T H v d) : decide (v = .non) = isNon d := by
  cases r <;> rfl
def rIsA : R2 := fun x y H Q => (y = .non ∧ Q (.bl (decide (x = .non))) H) ∨ rIsB x y H Q
def rIsNotA : R2 := fun x y H Q => (y = .non ∧ Q (.bl (!decide (x = .non))) H) ∨ rNotB x y H Q
theorem op_isA {X : Cx} : OpR X (compareOp .Is) rIsA := op_isN.or op_isBl
theorem op_isNotA {X : Cx} : OpR X (compareOp .IsNot) rIsNotA := op_notN.or op_notBl
theorem beq_dec (a b : Bool) : decide (a = b) = (a == b) := by cases a <;> cases b <;> rfl
theorem ok_is (K : PySem.W.Frag) : Ok2 K rIsA dIs := by
  intro tau T H x y d1 d2 d Q c r1 r2 e k
  unfold dIs at e
  split at e
  · cases e; cases r2
    refine .inl ⟨rfl, ?_⟩
    rw [isNon_eq r1]
    exact k _ _ (Same.refl _) (.bl _)
  · cases e; cases r1; cases r2
    refine .inr ⟨_, _, rfl, rfl, ?_⟩
    rw [beq_dec]
    exact k _ _ (Same.refl _) (.bl _)
  · cases e
theorem ok_isNot (K : PySem.W.Frag) : Ok2 K rIsNotA dIsNot := by
  intro tau T H x y d1 d2 d Q c r1 r2 e k
  unfold dIsNot at e
  split at e
  · cases e; cases r2
    refine .inl ⟨rfl, ?_⟩
    rw [isNon_eq r1]
    exact k _ _ (Same.refl _) (.bl _)
  · cases e; cases r1; cases r2
    refine .inr ⟨_, _, rfl, rfl, ?_⟩
    rw [beq_dec]
    exact k _ _ (Same.refl _) (.bl _)
  · cases e
/-! ### items, slices -/
def dIx : D → D → Option D
  | .list ds, .int i => atI ds i
  | .tuple ds, .int i => atI ds i
  | .str z, .int i => (atI z.cps.toList i).map fun c => .str ⟨#[c]⟩
  | _, _ => none
theorem atI_rp {K : PySem.W.Frag} {tau : Option Addr} {T : Addr → Prop} {H : Hp} {vs : List V} {ds : List D} {i : Int} {d : D} (r : RpL K tau T H vs ds) (h : atI ds i = some d) : ∃ v, atI vs i = some v ∧ Rp K tau T H v d := by
  unfold atI at h ⊢
  rw [r.length]
  cases q : ixN ds.length i with
  | none => rw [q] at h; cases h
  | some j =>
    rw [q] at h
    exact r.get h
theorem ok_ix (K : PySem.W.Frag) : Ok2 K (rIx K) dIx := by
  intro tau T H x y d1 d2 d Q c r1 r2 e k
  unfold dIx at e
  split at e
  · cases r2
    cases r1 with
    | lst h1 n1 l1 q1 =>
      obtain ⟨v, h2, h3⟩ := atI_rp q1 e
      exact .inl ⟨_, _, _, _, rfl, rfl, SqL.of h1, h2, k _ _ (Same.refl _) h3⟩
  · cases r2
    cases r1 with
    | tup h1 n1 l1 q1 =>
      obtain ⟨v, h2, h3⟩ := atI_rp q1 e
      exact .inr (.inl ⟨_, _, _, _, rfl, rfl, SqT.of h1, h2, k _ _ (Same.refl _) h3⟩)
  · cases r2
    cases r1 with
    | str _ hz =>
      rename_i z i
      cases q : atI z.cps.toList i with
      | none => rw [q] at e; cases e
      | some ch =>
        rw [q] at e
        cases e
        exact .inr (.inr ⟨_, _, _, rfl, rfl, hz, q, k _ _ (Same.refl _) (.str _ (by show 1 ≤ sizeLine; rw [sizeLine_eq]; omega))⟩)
  · cases e
def cutD {α : Type} (xs : List α) (lo hi : Option Int) : List α := (xs.drop (HT.sIx xs.length 0 lo)).take (HT.sIx xs.length xs.length hi - HT.sIx xs.length 0 lo)
def dSl : D → Option Int → Option Int → Option D
  | .list ds, lo, hi => some (.list (cutD ds lo hi))
  | .tuple ds, lo, hi => some (.tuple (cutD ds lo hi))
  | _, _, _ => none
def rSlAll (K : PySem.W.Frag) : V → Option Int → Option Int → Hp → VK → Prop := fun x lo hi H Q => rSlL K x lo hi H Q ∨ rSlA K x lo hi H Q
theorem sl_all {X : Cx} : SlR X (rSlAll X.K) := sl_list.or sl_tupA
theorem cut_rp {K : PySem.W.Frag} {tau : Option Addr} {T : Addr → Prop} {H : Hp} {vs : List V} {ds : List D} {lo hi : Option Int} (r : RpL K tau T H vs ds) : RpL K tau T H (cutV vs lo hi) (cutD ds lo hi) := by
  unfold cutV cutD
  rw [r.length]
  exact (r.drop _).take _
theorem cutD_len {α : Type} (xs : List α) (lo hi : Option Int) : (cutD xs lo hi).length ≤ xs.length := by
  unfold cutD
  rw [List.length_take, List.length_drop]
  omega
theorem cutD_whole {α : Type} (xs : List α) (lo hi : Option Int) (h : HT.sIx xs.length 0 lo = 0 ∧ HT.sIx xs.length xs.length hi = xs.length) : cutD xs lo hi = xs := by
  unfold cutD
  rw [h.1, h.2]
  simp
theorem ok_sl (K : PySem.W.Frag) : OkS K (rSlAll K) dSl := by
  intro tau T H x d d' lo hi Q c r e k
  unfold dSl at e
  split at e
  · cases e
    cases r with
    | lst h1 n1 l1 q1 => exact .inl ⟨_, _, rfl, SqL.of h1, new_lst c (cut_rp q1) (Nat.le_trans (cutD_len _ _ _) l1) k⟩
  · cases e
    cases r with
    | tup h1 n1 l1 q1 =>
      refine .inr ⟨_, _, rfl, SqT.of h1, fun hw => ?_, fun _ => new_tup c (cut_rp q1) (Nat.le_trans (cutD_len _ _ _) l1) k⟩
      rw [q1.length] at hw
      rw [cutD_whole _ _ _ hw] at k
      exact k _ _ (Same.refl _) (.tup h1 n1 l1 q1)
  · cases e
/-- xs[::-1] of a list -/
def dRev : D → Option D
  | .list ds => some (.list ds.reverse)
  | _ => none
theorem me_rev {X : Cx} {e : Expr} {f : FE} {k : Nat} {p1 p2 p3 pos : Pos} (he : ME X e f) : ME X (.Subscript e (.Slice none none (some (.UnaryOp .USub (.Constant (.int 1) k p1) p2)) p3) pos) (e1 dRev f) := by
  refine pe_imp (pe_revL he) fun σ H Q q => ?_
  obtain ⟨tau, T, env, n, d, n', R, t, e, k⟩ := q
  obtain ⟨x, h1, h3⟩ := e1_inv e
  refine tM_run R t h1 fun v H1 k1 R1 t1 r1 => ?_
  unfold dRev at h3
  split at h3
  · cases h3
    cases r1 with
    | lst g1 n1 l1 q1 =>
      refine ⟨_, _, rfl, SqL.of g1, new_lst R1.ok q1.reverse (by rw [List.length_reverse]; exact l1) fun v' H' s r' => k v' H' (k1.trans (Keep.of_same s)) (t1.of_same s) r'⟩
  · cases h3


/-! ### lists of ints, of bools -/
def ints? : List D → Option (List Int)
  | [] => some []
  | .int i :: r => (ints? r).map (i :: ·)
  | _ => none
def bools? : List D → Option (List Bool)
  | [] => some []
  | .bool i :: r => (bools? r).map (i :: ·)
  | _ => none
theorem ints?_eq : ∀ {ds : List D} {ns : List Int}, ints? ds = some ns → ds = ns.map .int
  | [], ns, h => by
    cases (show some [] = some ns from h)
    rfl
  | .int i :: r, ns, h => by
    have h1 : (ints? r).map (i :: ·) = some ns := h
    cases q : ints? r with
    | none => rw [q] at h1; cases h1
    | some ms =>
      rw [q] at h1
      cases (show some (i :: ms) = some ns from h1)
      rw [List.map_cons, ints?_eq q]
  | .none :: _, _, h => nomatch h
  | .bool _ :: _, _, h => nomatch h
  | .str _ :: _, _, h => nomatch h
  | .list _ :: _, _, h => nomatch h
  | .tuple _ :: _, _, h => nomatch h
  | .dict _ :: _, _, h => nomatch h
theorem ints?_map : ∀ ns : List Int, ints? (ns.map .int) = some ns
  | [] => rfl
  | n :: r => by
    show (ints? (r.map .int)).map (n :: ·) = _
    rw [ints?_map r]
    rfl
theorem bools?_eq : ∀ {ds : List D} {ns : List Bool}, bools? ds = some ns → ds = ns.map .bool
  | [], ns, h => by
    cases (show some [] = some ns from h)
    rfl
  | .bool i :: r, ns, h => by
    have h1 : (bools? r).map (i :: ·) = some ns := h
    cases q : bools? r with
    | none => rw [q] at h1; cases h1
    | some ms =>
      rw [q] at h1
      cases (show some (i :: ms) = some ns from h1)
      rw [List.map_cons, bools?_eq q]
  | .none :: _, _, h => nomatch h
  | .int _ :: _, _, h => nomatch h
  | .str _ :: _, _, h => nomatch h
  | .list _ :: _, _, h => nomatch h
  | .tuple _ :: _, _, h => nomatch h
  | .dict _ :: _, _, h => nomatch h
theorem bools?_map : ∀ ns : List Bool, bools? (ns.map .bool) = some ns
  | [] => rfl
  | n :: r => by
    show (bools? (r.map .bool)).map (n :: ·) = _
    rw [bools?_map r]
    rfl
def maxL : List Int → Int
  | [] => 0
  | [x] => x
  | x :: y :: r => max x (maxL (y :: r))
def minL : List Int → Int
  | [] => 0
  | [x] => x
  | x :: y :: r => min x (minL (y :: r))
theorem maxL_mem : ∀ {ns : List Int}, ns ≠ [] → maxL ns ∈ ns
  | [], h => absurd rfl h
  | [x], _ => by simp [maxL]
  | x :: y :: r, _ => by
    have ih := maxL_mem (ns := y :: r) (by simp)
    unfold maxL
    by_cases h : x ≤ maxL (y :: r)
    · rw [Int.max_eq_right h]; exact List.mem_cons_of_mem _ ih
    · rw [Int.max_eq_left (by omega)]; exact List.mem_cons_self
theorem maxL_ge : ∀ {ns : List Int} {z : Int}, z ∈ ns → z ≤ maxL ns
  | [], _, h => by simp at h
  | [x], z, h => by simp at h; simp [maxL, h]
  | x :: y :: r, z, h => by
    unfold maxL
    rcases List.mem_cons.mp h with rfl | h
    · omega
    · have ih := maxL_ge (ns := y :: r) h
      omega
theorem maxL_eq {ns : List Int} {m : Int} (h : m ∈ ns) (h2 : ∀ y, y ∈ ns → y ≤ m) : m = maxL ns := by
  have h3 := maxL_ge h
  have h4 := h2 _ (maxL_mem (ns := ns) (by intro z; rw [z] at h; simp at h))
  omega
theorem minL_mem : ∀ {ns : List Int}, ns ≠ [] → minL ns ∈ ns
  | [], h => absurd rfl h
  | [x], _ => by simp [minL]
  | x :: y :: r, _ => by
    have ih := minL_mem (ns := y :: r) (by simp)
    unfold minL
    by_cases h : x ≤ minL (y :: r)
    · rw [Int.min_eq_left h]; exact List.mem_cons_self
    · rw [Int.min_eq_right (by omega)]; exact List.mem_cons_of_mem _ ih
theorem minL_le : ∀ {ns : List Int} {z : Int}, z ∈ ns → minL ns ≤ z
  | [], _, h => by simp at h
  | [x], z, h => by simp at h; simp [minL, h]
  | x :: y :: r, z, h => by
    unfold minL
    rcases List.mem_cons.mp h with rfl | h
    · omega
    · have ih := minL_le (ns := y :: r) h
      omega
theorem minL_eq {ns : List Int} {m : Int} (h : m ∈ ns) (h2 : ∀ y, y ∈ ns → m ≤ y) : m = minL ns := by
  have h3 := minL_le h
  have h4 := h2 _ (minL_mem (ns := ns) (by intro z; rw [z] at h; simp at h))
  omega

/-! ### sum, max, min of a tuple -/
section
variable {prog : Program} {w : World} {A : Around} {E : Value → Shared → Prop} {s : Shared} {l : Addr} {xs : Array (Int × Tok)}
theorem iter_intTup {Q : Value → Shared → Prop} (hl : s.heap.IsTuple l (intItems xs))
    (h : ∀ s₂ : Shared, s₂ = { s with heap := s.heap.push { cls := .type "tuple_iterator", data := .fields #[.ref l, .int 0 0] } } →
      (s₂.heap.IsTupleIter s.heap.objs.size l 0 ∧ s₂.heap.IsTuple l (intItems xs)) → (∀ b ∈ [s.heap.objs.size, l], b < s₂.heap.objs.size) → l ≠ s.heap.objs.size → Q (.ref s.heap.objs.size) s₂) :
    wpAny (model prog w) A (pyIter (.ref l)) Q E s := by
  have hlt : l < s.heap.objs.size := by obtain ⟨_, e, _⟩ := hl; exact Heap.lt_size e
  refine wpAny_pyIter_tuple hl (h _ rfl ⟨⟨_, Heap.get?_push_size _ rfl, rfl, rfl⟩, hl.push _⟩ (fun b hb => ?_) (Nat.ne_of_lt hlt))
  show b < (s.heap.push _).objs.size
  rw [Heap.size_push]
  rcases List.mem_cons.mp hb with rfl | hb
  · exact Nat.lt_succ_self _
  · rcases List.mem_cons.mp hb with rfl | hb
    · exact Nat.lt_succ_of_lt hlt
    · cases hb
theorem old_keptT {h' : Heap} {o' : Obj} (hk : ∀ b o, b ∉ [s.heap.objs.size] → (s.heap.push o').get? b = some o → h'.get? b = some o) :
    ∀ b o, s.heap.get? b = some o → h'.get? b = some o := fun b o e => by
  refine hk b o (fun hm => ?_) (Heap.get?_push_of_some _ e)
  rcases List.mem_cons.mp hm with e1 | hm
  · exact absurd (e1 ▸ Heap.lt_size e) (Nat.lt_irrefl _)
  · cases hm
theorem sum_intTup {Q : Value → Shared → Prop} (hh : A.handled = none) (hl : s.heap.IsTuple l (intItems xs))
    (h : ∀ h' tk t', (∀ b o, s.heap.get? b = some o → h'.get? b = some o) → Q (.int (preSum (numAt xs) xs.size) t') { s with heap := h', toks := tk }) :
    wpAny (model prog w) A (call (.builtin "sum") [.ref l]) Q E s := by
  refine call_sum_walkG (iter_intTup hl fun s₂ e st hfp hlI => ?_)
  subst e
  refine ⟨_, _, _, _, _, _, numAt xs, rfl, Walks.tuple (A := A.in1) hh _ l hlI (intItems xs), st, hfp, (fun _ _ => intItems_at), fun h' tk t' hk => ?_⟩
  have := h h' tk t' (old_keptT hk)
  simpa [intItems] using this
theorem max_intTup {Q : Value → Shared → Prop} (hh : A.handled = none) (hl : s.heap.IsTuple l (intItems xs)) (hne : 0 < xs.size)
    (h : ∀ v h' tk, (intItems xs)[argBest (fun i j => decide (numAt xs i > numAt xs j)) (xs.size - 1)]? = some v → (∀ b o, s.heap.get? b = some o → h'.get? b = some o) → Q v { s with heap := h', toks := tk }) :
    wpAny (model prog w) A (call (.builtin "max") [.ref l]) Q E s := by
  refine call_max_walk (iter_intTup hl fun s₂ e st hfp hlI => ?_)
  subst e
  refine ⟨_, _, _, _, _, _, _, rfl, Walks.tuple (A := A.in1) hh _ l hlI (intItems xs), st, hfp, by simpa [intItems] using hne, CmpOf.ints_gt (numAt xs) (fun _ _ => intItems_at), fun v h' tk hP hk => ?_⟩
  exact h v h' tk (by simpa [intItems] using hP) (old_keptT hk)
theorem min_intTup {Q : Value → Shared → Prop} (hh : A.handled = none) (hl : s.heap.IsTuple l (intItems xs)) (hne : 0 < xs.size)
    (h : ∀ v h' tk, (intItems xs)[argBest (fun i j => decide (numAt xs i < numAt xs j)) (xs.size - 1)]? = some v → (∀ b o, s.heap.get? b = some o → h'.get? b = some o) → Q v { s with heap := h', toks := tk }) :
    wpAny (model prog w) A (call (.builtin "min") [.ref l]) Q E s := by
  refine call_min_walk (iter_intTup hl fun s₂ e st hfp hlI => ?_)
  subst e
  refine ⟨_, _, _, _, _, _, _, rfl, Walks.tuple (A := A.in1) hh _ l hlI (intItems xs), st, hfp, by simpa [intItems] using hne, CmpOf.ints_lt (numAt xs) (fun _ _ => intItems_at), fun v h' tk hP hk => ?_⟩
  exact h v h' tk (by simpa [intItems] using hP) (old_keptT hk)
variable {its : List Value} {ns : List Int}
theorem sum_rawT {Q : Value → Shared → Prop} (hh : A.handled = none) (hl : s.heap.IsTuple l its.toArray) (hi : IntsAre its ns)
    (h : ∀ h' tk t', (∀ b o, s.heap.get? b = some o → h'.get? b = some o) → Q (.int ns.sum t') { s with heap := h', toks := tk }) : wpAny (model prog w) A (call (.builtin "sum") [.ref l]) Q E s := by
  obtain ⟨xs, e⟩ := hi.allInts.items
  have hn : numsOf (intItems xs).toList = ns := by rw [← e]; exact hi.numsOf
  rw [nums_intItems] at hn
  rw [e] at hl
  refine sum_intTup hh hl fun h' tk t' hk => ?_
  have := h h' tk t' hk
  rw [preSum_eq, List.take_of_length_le (by simp), hn]; exact this
theorem max_rawT {Q : Value → Shared → Prop} (hh : A.handled = none) (hl : s.heap.IsTuple l its.toArray) (hi : IntsAre its ns) (hne : 0 < ns.length)
    (h : ∀ h' tk M t', (∀ b o, s.heap.get? b = some o → h'.get? b = some o) → M ∈ ns → (∀ a, a ∈ ns → a ≤ M) → Q (.int M t') { s with heap := h', toks := tk }) : wpAny (model prog w) A (call (.builtin "max") [.ref l]) Q E s := by
  obtain ⟨xs, e⟩ := hi.allInts.items
  have hn : numsOf (intItems xs).toList = ns := by rw [← e]; exact hi.numsOf
  rw [nums_intItems] at hn
  subst hn
  rw [e] at hl
  have hsz : 0 < xs.size := by simpa using hne
  refine max_intTup hh hl hsz fun v h' tk hv hk => ?_
  obtain ⟨t, rfl⟩ := intItems_at hv
  obtain ⟨h1, h2⟩ := argBest_gt (numAt xs) (xs.size - 1)
  refine h h' tk _ t hk ?_ fun a ha => ?_
  · rw [numAt_eq]; exact PySem.getD_mem (by rw [List.length_map, Array.length_toList]; omega)
  · obtain ⟨j, hj, rfl⟩ := mem_getD ha
    rw [List.length_map, Array.length_toList] at hj
    rw [← numAt_eq]; exact h2 j (by omega)
theorem min_rawT {Q : Value → Shared → Prop} (hh : A.handled = none) (hl : s.heap.IsTuple l its.toArray) (hi : IntsAre its ns) (hne : 0 < ns.length)
    (h : ∀ h' tk M t', (∀ b o, s.heap.get? b = some o → h'.get? b = some o) → M ∈ ns → (∀ a, a ∈ ns → M ≤ a) → Q (.int M t') { s with heap := h', toks := tk }) : wpAny (model prog w) A (call (.builtin "min") [.ref l]) Q E s := by
  obtain ⟨xs, e⟩ := hi.allInts.items
  have hn : numsOf (intItems xs).toList = ns := by rw [← e]; exact hi.numsOf
  rw [nums_intItems] at hn
  subst hn
  rw [e] at hl
  have hsz : 0 < xs.size := by simpa using hne
  refine min_intTup hh hl hsz fun v h' tk hv hk => ?_
  obtain ⟨t, rfl⟩ := intItems_at hv
  obtain ⟨h1, h2⟩ := argBest_lt (numAt xs) (xs.size - 1)
  refine h h' tk _ t hk ?_ fun a ha => ?_
  · rw [numAt_eq]; exact PySem.getD_mem (by rw [List.length_map, Array.length_toList]; omega)
  · obtain ⟨j, hj, rfl⟩ := mem_getD ha
    rw [List.length_map, Array.length_toList] at hj
    rw [← numAt_eq]; exact h2 j (by omega)
end

section
variable {X : Cx}
def rSumT (K : PySem.W.Frag) : List V → Hp → VK → Prop := fun vs H Q => ∃ (a : Addr) (ns : List Int), vs = [V.ref a] ∧ SqT K H a (ns.map V.int) ∧ Q (.int ns.sum) H
def rMaxT (K : PySem.W.Frag) : List V → Hp → VK → Prop := fun vs H Q => ∃ (a : Addr) (ns : List Int), vs = [V.ref a] ∧ SqT K H a (ns.map V.int) ∧ 0 < ns.length ∧ ∀ m, m ∈ ns → (∀ y, y ∈ ns → y ≤ m) → Q (.int m) H
def rMinT (K : PySem.W.Frag) : List V → Hp → VK → Prop := fun vs H Q => ∃ (a : Addr) (ns : List Int), vs = [V.ref a] ∧ SqT K H a (ns.map V.int) ∧ 0 < ns.length ∧ ∀ m, m ∈ ns → (∀ y, y ∈ ns → m ≤ y) → Q (.int m) H
theorem cr_sumT (hc : X.calm = true) : CallR X (.builtin "sum") (rSumT X.K) := by
  intro pins s σ H vs us Q I r h
  obtain ⟨a, ns, rfl, hs, q⟩ := h
  obtain ⟨its, rv, hl, _⟩ := I.tuple hs
  rw [Vals.ref1 r]
  exact sum_rawT (I.ok.hd hc) hl rv.ints fun h' tk t' hk => ⟨.int _, H, I.kept hk, ⟨_, rfl⟩, q⟩
theorem cr_maxT (hc : X.calm = true) : CallR X (.builtin "max") (rMaxT X.K) := by
  intro pins s σ H vs us Q I r h
  obtain ⟨a, ns, rfl, hs, hne, q⟩ := h
  obtain ⟨its, rv, hl, _⟩ := I.tuple hs
  rw [Vals.ref1 r]
  exact max_rawT (I.ok.hd hc) hl rv.ints hne fun h' tk m t' hk h1 h2 => ⟨.int _, H, I.kept hk, ⟨_, rfl⟩, q m h1 h2⟩
theorem cr_minT (hc : X.calm = true) : CallR X (.builtin "min") (rMinT X.K) := by
  intro pins s σ H vs us Q I r h
  obtain ⟨a, ns, rfl, hs, hne, q⟩ := h
  obtain ⟨its, rv, hl, _⟩ := I.tuple hs
  rw [Vals.ref1 r]
  exact min_rawT (I.ok.hd hc) hl rv.ints hne fun h' tk m t' hk h1 h2 => ⟨.int _, H, I.kept hk, ⟨_, rfl⟩, q m h1 h2⟩
end
/-! ### the calls as data -/
def seq? : D → Option (List D)
  | .list ds => some ds
  | .tuple ds => some ds
  | _ => none
/-- a list or tuple at its place -/
theorem seq_rp {K : PySem.W.Frag} {tau : Option Addr} {T : Addr → Prop} {H : Hp} {v : V} {d : D} {ds : List D} (r : Rp K tau T H v d) (h : seq? d = some ds) : ∃ a xs, v = .ref a ∧ RpL K tau T H xs ds ∧ ds.length ≤ sizeLine ∧ (H a = some (.lst xs) ∨ H a = some (.tup xs)) := by
  cases r with
  | lst h1 n1 l1 q1 => cases h; exact ⟨_, _, rfl, q1, l1, .inl h1⟩
  | tup h1 n1 l1 q1 => cases h; exact ⟨_, _, rfl, q1, l1, .inr h1⟩
  | _ => cases h
theorem rpl1 {K : PySem.W.Frag} {tau : Option Addr} {T : Addr → Prop} {H : Hp} {vs : List V} {d : D} (r : RpL K tau T H vs [d]) : ∃ v, vs = [v] ∧ Rp K tau T H v d := by
  cases r with
  | cons h t => cases t; exact ⟨_, rfl, h⟩
theorem rpl2 {K : PySem.W.Frag} {tau : Option Addr} {T : Addr → Prop} {H : Hp} {vs : List V} {d e : D} (r : RpL K tau T H vs [d, e]) : ∃ v u, vs = [v, u] ∧ Rp K tau T H v d ∧ Rp K tau T H u e := by
  cases r with
  | cons h t =>
    obtain ⟨u, rfl, h2⟩ := rpl1 t
    exact ⟨_, _, rfl, h, h2⟩
def c1 (F : D → Option D) : List D → Option D
  | [d] => F d
  | _ => none
def dLen : D → Option D
  | .str x => some (.int x.length)
  | .list ds => some (.int ds.length)
  | .tuple ds => some (.int ds.length)
  | _ => none
def dSum (d : D) : Option D := ((seq? d).bind ints?).map fun ns => .int ns.sum
def dMax (d : D) : Option D := ((seq? d).bind ints?).bind fun ns => if ns.isEmpty then none else some (.int (maxL ns))
def dMin (d : D) : Option D := ((seq? d).bind ints?).bind fun ns => if ns.isEmpty then none else some (.int (minL ns))
def lst? : D → Option (List D)
  | .list ds => some ds
  | _ => none
def dAny (d : D) : Option D := ((lst? d).bind bools?).map fun ns => .bool (ns.any id)
def dAll (d : D) : Option D := ((lst? d).bind bools?).map fun ns => .bool (ns.all id)
def dList (d : D) : Option D := (seq? d).map .list
def dTuple (d : D) : Option D := (seq? d).map .tuple
section
variable (K : PySem.W.Frag)
def rLenA : List V → Hp → VK → Prop := fun xs H Q => (∃ p ys, xs = [.ref p] ∧ (SqL K H p ys ∨ SqT K H p ys) ∧ Q (.int ys.length) H) ∨ (∃ z, xs = [.str z] ∧ z.length ≤ sizeLine ∧ Q (.int z.length) H)
theorem cr_len {X : Cx} : CallR X (.builtin "len") (rLenA X.K) := call_len_seq.or call_len_str
theorem ok_len : OkL K (rLenA K) (c1 dLen) := by
  intro tau T H xs ds d Q c r e k
  unfold c1 at e
  split at e
  · obtain ⟨v, rfl, h⟩ := rpl1 r
    unfold dLen at e
    split at e
    · cases e
      cases h with
      | str _ hz => exact .inr ⟨_, rfl, hz, k _ _ (Same.refl _) (.int _)⟩
    · cases e
      cases h with
      | lst h1 n1 l1 q1 =>
        refine .inl ⟨_, _, rfl, .inl (SqL.of h1), ?_⟩
        rw [q1.length]
        exact k _ _ (Same.refl _) (.int _)
    · cases e
      cases h with
      | tup h1 n1 l1 q1 =>
        refine .inl ⟨_, _, rfl, .inr (SqT.of h1), ?_⟩
        rw [q1.length]
        exact k _ _ (Same.refl _) (.int _)
    · cases e
  · cases e
theorem seqi_inv {d : D} {ns : List Int} (h : (seq? d).bind ints? = some ns) : seq? d = some (ns.map .int) := by
  cases q : seq? d with
  | none => rw [q] at h; cases h
  | some ds => rw [q] at h; rw [ints?_eq h]
theorem seqb_inv {d : D} {ns : List Bool} (h : (lst? d).bind bools? = some ns) : d = .list (ns.map .bool) := by
  unfold lst? at h
  split at h
  · rw [bools?_eq h]
  · cases h
variable {K}
theorem ints_at {tau : Option Addr} {T : Addr → Prop} {H : Hp} {v : V} {d : D} {ns : List Int} (r : Rp K tau T H v d) (h : (seq? d).bind ints? = some ns) : ∃ a, v = .ref a ∧ (SqL K H a (ns.map V.int) ∨ SqT K H a (ns.map V.int)) := by
  obtain ⟨a, xs, rfl, q, l, ha⟩ := seq_rp r (seqi_inv h)
  rw [q.inv_ints] at ha
  exact ⟨a, rfl, ha.imp SqL.of SqT.of⟩
variable (K)
def rSumA : List V → Hp → VK → Prop := fun xs H Q => rSum K xs H Q ∨ rSumT K xs H Q
def rMaxA : List V → Hp → VK → Prop := fun xs H Q => rMax K xs H Q ∨ rMaxT K xs H Q
def rMinA : List V → Hp → VK → Prop := fun xs H Q => rMin K xs H Q ∨ rMinT K xs H Q
theorem cr_sumA {X : Cx} (hc : X.calm = true) : CallR X (.builtin "sum") (rSumA X.K) := (cr_sum hc).or (cr_sumT hc)
theorem cr_maxA {X : Cx} (hc : X.calm = true) : CallR X (.builtin "max") (rMaxA X.K) := (cr_max hc).or (cr_maxT hc)
theorem cr_minA {X : Cx} (hc : X.calm = true) : CallR X (.builtin "min") (rMinA X.K) := (cr_min hc).or (cr_minT hc)
theorem ok_sum : OkL K (rSumA K) (c1 dSum) := by
  intro tau T H xs ds d Q c r e k
  unfold c1 at e
  split at e
  · obtain ⟨v, rfl, h⟩ := rpl1 r
    unfold dSum at e
    rw [Option.map_eq_some_iff] at e
    obtain ⟨ns, e1, rfl⟩ := e
    obtain ⟨a, rfl, ha⟩ := ints_at h e1
    rcases ha with ha | ha
    · exact .inl ⟨a, ns, rfl, ha, k _ _ (Same.refl _) (.int _)⟩
    · exact .inr ⟨a, ns, rfl, ha, k _ _ (Same.refl _) (.int _)⟩
  · cases e
theorem ok_max : OkL K (rMaxA K) (c1 dMax) := by
  intro tau T H xs ds d Q c r e k
  unfold c1 at e
  split at e
  · obtain ⟨v, rfl, h⟩ := rpl1 r
    unfold dMax at e
    rw [Option.bind_eq_some_iff] at e
    obtain ⟨ns, e1, e2⟩ := e
    split at e2
    · cases e2
    · rename_i hne
      cases e2
      have hn : 0 < ns.length := by
        cases ns with
        | nil => exact absurd rfl hne
        | cons a b => simp
      obtain ⟨a, rfl, ha⟩ := ints_at h e1
      have fin : ∀ m, m ∈ ns → (∀ y, y ∈ ns → y ≤ m) → Q (.int m) H := fun m h1 h2 => by
        rw [maxL_eq h1 h2]
        exact k _ _ (Same.refl _) (.int _)
      rcases ha with ha | ha
      · exact .inl ⟨a, ns, rfl, ha, hn, fin⟩
      · exact .inr ⟨a, ns, rfl, ha, hn, fin⟩
  · cases e
theorem ok_min : OkL K (rMinA K) (c1 dMin) := by
  intro tau T H xs ds d Q c r e k
  unfold c1 at e
  split at e
  · obtain ⟨v, rfl, h⟩ := rpl1 r
    unfold dMin at e
    rw [Option.bind_eq_some_iff] at e
    obtain ⟨ns, e1, e2⟩ := e
    split at e2
    · cases e2
    · rename_i hne
      cases e2
      have hn : 0 < ns.length := by
        cases ns with
        | nil => exact absurd rfl hne
        | cons a b => simp
      obtain ⟨a, rfl, ha⟩ := ints_at h e1
      have fin : ∀ m, m ∈ ns → (∀ y, y ∈ ns → m ≤ y) → Q (.int m) H := fun m h1 h2 => by
        rw [minL_eq h1 h2]
        exact k _ _ (Same.refl _) (.int _)
      rcases ha with ha | ha
      · exact .inl ⟨a, ns, rfl, ha, hn, fin⟩
      · exact .inr ⟨a, ns, rfl, ha, hn, fin⟩
  · cases e
theorem ok_any : OkL K (rAny K) (c1 dAny) := by
  intro tau T H xs ds d Q c r e k
  unfold c1 at e
  split at e
  · obtain ⟨v, rfl, h⟩ := rpl1 r
    unfold dAny at e
    rw [Option.map_eq_some_iff] at e
    obtain ⟨ns, e1, rfl⟩ := e
    cases seqb_inv e1
    cases h with
    | lst h1 n1 l1 q1 =>
      rw [q1.inv_bls] at h1
      exact ⟨_, ns, rfl, SqL.of h1, k _ _ (Same.refl _) (.bl _)⟩
  · cases e
theorem ok_all : OkL K (rAll K) (c1 dAll) := by
  intro tau T H xs ds d Q c r e k
  unfold c1 at e
  split at e
  · obtain ⟨v, rfl, h⟩ := rpl1 r
    unfold dAll at e
    rw [Option.map_eq_some_iff] at e
    obtain ⟨ns, e1, rfl⟩ := e
    cases seqb_inv e1
    cases h with
    | lst h1 n1 l1 q1 =>
      rw [q1.inv_bls] at h1
      exact ⟨_, ns, rfl, SqL.of h1, k _ _ (Same.refl _) (.bl _)⟩
  · cases e
theorem ok_list : OkL K (fun xs H Q => ∃ p ys, xs = [.ref p] ∧ (SqL K H p ys ∨ SqT K H p ys) ∧ ∀ l, H l = none → Q (.ref l) (upd H l (.lst ys))) (c1 dList) := by
  intro tau T H xs ds d Q c r e k
  unfold c1 at e
  split at e
  · obtain ⟨v, rfl, h⟩ := rpl1 r
    unfold dList at e
    rw [Option.map_eq_some_iff] at e
    obtain ⟨es, e1, rfl⟩ := e
    obtain ⟨a, ys, rfl, q, l, ha⟩ := seq_rp h e1
    exact ⟨a, ys, rfl, ha.imp SqL.of SqT.of, new_lst c q l k⟩
  · cases e
theorem ok_tuple : OkL K (fun xs H Q => ∃ p ys, xs = [.ref p] ∧ ((SqL K H p ys ∧ ∀ l, H l = none → Q (.ref l) (upd H l (.tup ys))) ∨ (SqT K H p ys ∧ Q (.ref p) H))) (c1 dTuple) := by
  intro tau T H xs ds d Q c r e k
  unfold c1 at e
  split at e
  · obtain ⟨v, rfl, h⟩ := rpl1 r
    unfold dTuple at e
    rw [Option.map_eq_some_iff] at e
    obtain ⟨es, e1, rfl⟩ := e
    cases h with
    | lst h1 n1 l1 q1 =>
      cases e1
      exact ⟨_, _, rfl, .inl ⟨SqL.of h1, new_tup c q1 l1 k⟩⟩
    | tup h1 n1 l1 q1 =>
      cases e1
      exact ⟨_, _, rfl, .inr ⟨SqT.of h1, k _ _ (Same.refl _) (.tup h1 n1 l1 q1)⟩⟩
    | _ => cases e1
  · cases e
end
/-! ### isinstance -/
def isTy (t : String) : D → Option Bool
  | .none => some (t == "NoneType")
  | .bool _ => some (t == "bool" || t == "int")
  | .int _ => some (t == "int")
  | .str _ => some (t == "str")
  | .list _ => some (t == "list")
  | .tuple _ => some (t == "tuple")
  | .dict _ => none
def dIsi (t : String) (d : D) : Option D := (isTy t d).map .bool
structure KitOk (t : String) : Prop where
  non : kitB "NoneType" t = some (t == "NoneType")
  bl : kitB "bool" t = some (t == "bool" || t == "int")
  int : kitB "int" t = some (t == "int")
  str : kitB "str" t = some (t == "str")
  lst : kitB "list" t = some (t == "list")
  tup : kitB "tuple" t = some (t == "tuple")
theorem kit_int : KitOk "int" := ⟨by decide +kernel, by decide +kernel, by decide +kernel, by decide +kernel, by decide +kernel, by decide +kernel⟩
theorem kit_bool : KitOk "bool" := ⟨by decide +kernel, by decide +kernel, by decide +kernel, by decide +kernel, by decide +kernel, by decide +kernel⟩
theorem kit_str : KitOk "str" := ⟨by decide +kernel, by decide +kernel, by decide +kernel, by decide +kernel, by decide +kernel, by decide +kernel⟩
theorem kit_list : KitOk "list" := ⟨by decide +kernel, by decide +kernel, by decide +kernel, by decide +kernel, by decide +kernel, by decide +kernel⟩
theorem kit_tuple : KitOk "tuple" := ⟨by decide +kernel, by decide +kernel, by decide +kernel, by decide +kernel, by decide +kernel, by decide +kernel⟩
theorem ty_rp {K : PySem.W.Frag} {tau : Option Addr} {T : Addr → Prop} {H : Hp} {v : V} {d : D} {t : String} {b : Bool} (r : Rp K tau T H v d) (k : KitOk t) (h : isTy t d = some b) : ∃ u, TyX K H v u ∧ PySem.W.kitOne K u (.type t) = some b := by
  cases r with
  | non => exact ⟨_, .base .non, by rw [← h]; exact kit_ty k.non⟩
  | bl x => exact ⟨_, .base (.bl x), by rw [← h]; exact kit_ty k.bl⟩
  | int i => exact ⟨_, .base (.int i), by rw [← h]; exact kit_ty k.int⟩
  | str x _ => exact ⟨_, .base (.str x), by rw [← h]; exact kit_ty k.str⟩
  | lst h1 _ _ _ => exact ⟨_, .base (.lst h1), by rw [← h]; exact kit_ty k.lst⟩
  | tup h1 _ _ _ => exact ⟨_, .base (.tup h1), by rw [← h]; exact kit_ty k.tup⟩
  | town _ => cases h
  | scr _ _ => cases h
theorem me_isi {X : Cx} {e eT : Expr} {f : FE} {t : String} {p pos : Pos} (k : KitOk t) (hg : Gl X "isinstance") (hm : X.mg "isinstance" = none) (he : ME X e f) (hT : PE X eT (tC (.ty t)))
    (hs : starEach [e, eT] X.env = (false, eval e X.env) :: starEach [eT] X.env := by rfl) (hs2 : starEach [eT] X.env = (false, eval eT X.env) :: starEach [] X.env := by rfl) (hpl : (backTo pos (starEach [eT] X.env)).any (·.1) = false := by rfl) :
    ME X (.Call (.Name "isinstance" p) [e, eT] [] pos) (e1 (dIsi t) f) := by
  refine pe_imp (pe_callB call_isi hg hm (by decide +kernel) (pa_cons he (pa_cons hT pa_nil hs2) hs) (by decide) (by decide) hs hpl) fun σ H Q q => ?_
  obtain ⟨tau, T, env, n, d, n', R, t, e, kk⟩ := q
  obtain ⟨x, h1, h3⟩ := e1_inv e
  unfold dIsi at h3
  rw [Option.map_eq_some_iff] at h3
  obtain ⟨b, h4, rfl⟩ := h3
  refine tM_run R t h1 fun v H1 k1 R1 t1 r1 => ?_
  obtain ⟨u, h5, h6⟩ := ty_rp r1 k h4
  exact ⟨v, _, u, _, b, rfl, .ty _, h5, h6, kk _ _ k1 t1 (.bl _)⟩
theorem pe_tyN {X : Cx} {x : Str} {t : String} {pos : Pos} (hg : Gl X x) (hm : X.mg x = none) (hv : bootBuiltins x = some (.type t)) (hn : x ≠ "__name__" := by decide) (hd : (x == ("__debug__" : Str)) = false := by decide) : PE X (.Name x pos) (tC (.ty t)) := pe_bltn hg hm hv rfl hn hd


/-! ### targets -/
inductive Tg where
  | nm (i : Nat)
  | tp (is : List Nat)
def Tg.slots : Tg → List Nat
  | .nm i => [i]
  | .tp is => is
def gsOf : List Nat → TGs
  | [] => gNil
  | i :: r => gCons (gName i) (gsOf r)
def gOf (K : PySem.W.Frag) : Tg → TG
  | .nm i => gName i
  | .tp is => gTup K is.length (gsOf is)
def setAll {α : Type} : List (Option α) → List Nat → List α → List (Option α)
  | env, i :: is, d :: ds => setAll (env.set i (some d)) is ds
  | env, _, _ => env
def bindE : Tg → D → En → Option En
  | .nm i, d, env => some (env.set i (some d))
  | .tp is, .tuple ds, env => if ds.length = is.length then some (setAll env is ds) else none
  | .tp _, _, _ => none
abbrev MG (X : Cx) (tg : Expr) (t : Tg) : Prop := PG X tg (gOf X.K t)

theorem setAll_length {α : Type} : ∀ (is : List Nat) (env : List (Option α)) (ds : List α), (setAll env is ds).length = env.length
  | [], _, _ => rfl
  | _ :: _, _, [] => rfl
  | i :: is, env, d :: ds => by
    show (setAll (env.set i (some d)) is ds).length = _
    rw [setAll_length is, List.length_set]
section
variable {K : PySem.W.Frag} {tau : Option Addr} {T : Addr → Prop} {env : En} {σ : L2.St} {H : Hp}
theorem RE.set (R : RE K tau T env σ H) (i : Nat) {v : V} {d : D} (r : Rp K tau T H v d) : RE K tau T (env.set i (some d)) (σ.set i (some v)) H := by
  refine ⟨R.ok, by rw [List.length_set, List.length_set]; exact R.len, fun j d' e => ?_⟩
  by_cases h : i = j
  · subst h
    by_cases hl : i < env.length
    · rw [List.getElem?_set_self hl] at e
      cases e
      exact ⟨v, List.getElem?_set_self (by rw [← R.len]; exact hl), r⟩
    · rw [List.getElem?_eq_none (by rw [List.length_set]; omega)] at e
      cases e
  · rw [List.getElem?_set_ne h] at e ⊢
    exact R.get j d' e
theorem RE.setAll : ∀ (is : List Nat) {env : En} {σ : L2.St} {vs : List V} {ds : List D}, RE K tau T env σ H → RpL K tau T H vs ds → RE K tau T (setAll env is ds) (Pm.setAll σ is vs) H
  | [], _, _, _, _, R, _ => R
  | _ :: _, _, _, _, _, R, .nil => R
  | i :: is, _, _, _, _, R, .cons h t => RE.setAll is (R.set i h) t
theorem gsOf_run {Q : L2.St → Hp → Prop} : ∀ (is : List Nat) {σ : L2.St} {vs : List V}, vs.length = is.length → Q (Pm.setAll σ is vs) H → gsOf is vs σ H Q
  | [], _, [], _, h => ⟨rfl, h⟩
  | [], _, _ :: _, l, _ => by simp at l
  | _ :: _, _, [], l, _ => by simp at l
  | i :: is, σ, v :: vs, l, h => ⟨v, vs, rfl, gsOf_run is (by simpa using l) h⟩
/-- what a target makes of the slots -/
def bindV : Tg → V → List V → L2.St → L2.St
  | .nm i, v, _, σ => σ.set i (some v)
  | .tp is, _, vs, σ => Pm.setAll σ is vs
theorem gOf_run {t : Tg} {v : V} {d : D} {env' : En} {Q : L2.St → Hp → Prop} (R : RE K tau T env σ H) (r : Rp K tau T H v d) (e : bindE t d env = some env')
    (h : ∀ vs, RE K tau T env' (bindV t v vs σ) H → Q (bindV t v vs σ) H) : gOf K t v σ H Q := by
  cases t with
  | nm i =>
    cases e
    exact h [] (R.set i r)
  | tp is =>
    cases r with
    | @tup a xs ds h1 n1 l1 q1 =>
      have e' : (if ds.length = is.length then some (Pm.setAll env is ds) else none) = some env' := e
      split at e'
      · rename_i hl
        cases e'
        exact ⟨_, _, rfl, SqT.of h1, by rw [q1.length, hl], gsOf_run is (by rw [q1.length, hl]) (h _ (R.setAll is q1))⟩
      · cases e'
    | _ => simp [bindE] at e
end

/-! ### the slots of a comprehension's own names -/
def wipeE (env : En) : List Nat → En
  | [] => env
  | v :: vs => (wipeE env vs).set v none
theorem wipe_get (σ : L2.St) : ∀ (vs : List Nat) (j : Nat), (wipe σ vs)[j]? = if j ∈ vs then (if j < σ.length then some none else none) else σ[j]?
  | [], j => by simp [wipe]
  | v :: vs, j => by
    have ih := wipe_get σ vs j
    unfold wipe
    by_cases h : v = j
    · subst h
      by_cases hl : v < σ.length
      · rw [List.getElem?_set_self (by rw [wipe_length]; exact hl), if_pos (by simp), if_pos hl]
      · rw [List.getElem?_eq_none (by rw [List.length_set, wipe_length]; omega), if_pos (by simp), if_neg hl]
    · rw [List.getElem?_set_ne h, ih]
      have e : (j ∈ v :: vs) ↔ j ∈ vs := by
        rw [List.mem_cons]
        exact ⟨fun z => z.resolve_left fun q => h q.symm, .inr⟩
      by_cases hj : j ∈ vs
      · rw [if_pos hj, if_pos (e.mpr hj)]
      · rw [if_neg hj, if_neg (fun z => hj (e.mp z))]
theorem wipeE_length (env : En) : ∀ vs : List Nat, (wipeE env vs).length = env.length
  | [] => rfl
  | v :: vs => by unfold wipeE; rw [List.length_set, wipeE_length env vs]
theorem wipeE_some {env : En} {i : Nat} {x : D} : ∀ {vs : List Nat}, (wipeE env vs)[i]? = some (some x) → env[i]? = some (some x) ∧ i ∉ vs
  | [], h => ⟨h, by simp⟩
  | v :: vs, h => by
    unfold wipeE at h
    by_cases hi : v = i
    · subst hi
      by_cases hv : v < (wipeE env vs).length
      · rw [List.getElem?_set_self hv] at h; cases h
      · rw [List.getElem?_eq_none (by rw [List.length_set]; omega)] at h; cases h
    · rw [List.getElem?_set_ne hi] at h
      obtain ⟨h1, h2⟩ := wipeE_some h
      exact ⟨h1, by simp only [List.mem_cons, not_or]; exact ⟨fun e => hi e.symm, h2⟩⟩
theorem RE.wipe {K : PySem.W.Frag} {tau : Option Addr} {T : Addr → Prop} {env : En} {σ : L2.St} {H : Hp} (R : RE K tau T env σ H) (vs : List Nat) : RE K tau T (wipeE env vs) (L2.wipe σ vs) H := by
  refine ⟨R.ok, by rw [wipeE_length, wipe_length]; exact R.len, fun j d e => ?_⟩
  obtain ⟨h1, h2⟩ := wipeE_some e
  obtain ⟨v, h3, h4⟩ := R.get j d h1
  exact ⟨v, by rw [wipe_get, if_neg h2]; exact h3, h4⟩
theorem wipe_set {σ : L2.St} {vs : List Nat} {i : Nat} {y : Option V} (h : i ∈ vs) : wipe (σ.set i y) vs = wipe σ vs := by
  apply List.ext_getElem?
  intro j
  rw [wipe_get, wipe_get, List.length_set]
  by_cases hj : j ∈ vs
  · rw [if_pos hj, if_pos hj]
  · rw [if_neg hj, if_neg hj, List.getElem?_set_ne (fun z => hj (by rw [← z]; exact h))]
theorem wipe_wipe (σ : L2.St) (vs : List Nat) : wipe (wipe σ vs) vs = wipe σ vs := by
  apply List.ext_getElem?
  intro j
  rw [wipe_get, wipe_get, wipe_length]
  by_cases hj : j ∈ vs
  · rw [if_pos hj, if_pos hj]
  · simp only [if_neg hj, wipe_get]
theorem wipe_setAll : ∀ (is : List Nat) {σ : L2.St} {vs : List Nat} {xs : List V}, (∀ i ∈ is, i ∈ vs) → wipe (setAll σ is xs) vs = wipe σ vs
  | [], _, _, _, _ => rfl
  | _ :: _, _, _, [], _ => rfl
  | i :: is, σ, vs, x :: xs, h => by
    show wipe (setAll (σ.set i (some x)) is xs) vs = _
    rw [wipe_setAll is fun j hj => h j (List.mem_cons_of_mem _ hj), wipe_set (h i List.mem_cons_self)]
theorem wipe_bind {t : Tg} {v : V} {xs : List V} {σ : L2.St} {vs : List Nat} (h : ∀ i ∈ t.slots, i ∈ vs) : wipe (bindV t v xs (wipe σ vs)) vs = wipe σ vs := by
  cases t with
  | nm i =>
    show wipe ((wipe σ vs).set i (some v)) vs = _
    rw [wipe_set (h i (by simp [Tg.slots])), wipe_wipe]
  | tp is =>
    show wipe (setAll (wipe σ vs) is xs) vs = _
    rw [wipe_setAll is h, wipe_wipe]

/-! ### what is walked -/
structure Wk (K : PySem.W.Frag) (tau : Option Addr) (T : Addr → Prop) (J : It) (ds : List D) (H1 : Hp) : Prop where
  len : ds.length ≤ sizeLine
  run : ∀ (T' : Addr → Prop) (H : Hp), (∀ a x, ¬ T a → H1 a = some x → H a = some x ∧ ¬ T' a) → Cok tau T' H →
    (∀ i, i < ds.length → J.go i H ∧ ∀ x H', J.yld i H x H' → Same H H' ∧ ∃ d, ds[i]? = some d ∧ Rp K tau T' H' x d) ∧ J.stop ds.length H
def iM (K : PySem.W.Frag) (f : Fe (List D)) : TI := fun σ H R => ∃ (tau : Option Addr) (T : Addr → Prop) (env : En) (n : Nat) (ds : List D) (n' : Nat),
  RE K tau T env σ H ∧ Town tau n H ∧ f env n = some (ds, n') ∧ ∀ J H', Keep tau H H' → Town tau n' H' → Wk K tau T J ds H' → R J H'
abbrev MI (X : Cx) (tg iter : Expr) (f : Fe (List D)) : Prop := PI X tg iter (iM X.K f)
section
variable {X : Cx} {tg e : Expr} {es : List Expr} {pos : Pos} {f : FE} {fs : Fe (List D)}
theorem pi_imp {t t' : TI} (h : PI X tg e t) (i : ∀ σ H R, t' σ H R → t σ H R) : PI X tg e t' := ⟨fun pins s σ H Q I hw => h.run pins s σ H Q I (i _ _ _ hw)⟩
def iSeq (K : PySem.W.Frag) (tl : TE) : TI := fun σ H R => tl σ H fun x H1 => ∃ a, x = .ref a ∧ (((∃ xs, SqL K H1 a xs) ∧ R (Itl K a) H1) ∨ ((∃ xs, SqT K H1 a xs) ∧ R (Itt K a) H1))
theorem pi_seq {l : Expr} {tl : TE} (hl : PE X l tl) : PI X tg l (iSeq X.K tl) := by
  refine ⟨fun pins s σ H R I h => ?_⟩
  refine thn (hl.run pins s σ H _ I h) fun v s1 ⟨x, H1, I1, r1, q1⟩ => ?_
  obtain ⟨a, e, ⟨⟨xs, hq⟩, q⟩ | ⟨⟨xs, hq⟩, q⟩⟩ := q1
  · subst e
    cases r1
    obtain ⟨its, rv, p, hz⟩ := I1.list hq
    refine wpAny_pyIter_list p.isList ?_
    refine ⟨s1.heap.objs.size, [s1.heap.objs.size], _, _, H1, rfl, I1.kept (t' := s1.toks) fun b o e => Heap.get?_push_of_some _ e, turn_list a _, ⟨_, Heap.get?_push_size _ rfl, rfl, rfl⟩, fun b hb => ?_, q⟩
    have e : b = s1.heap.objs.size := by simpa using hb
    subst e
    exact I1.fpOk (Nat.le_refl _) (I1.hok.fresh (Nat.le_refl _))
  · subst e
    cases r1
    obtain ⟨its, rv, p, hz⟩ := I1.tuple hq
    refine wpAny_pyIter_tuple (show s1.heap.IsTuple a its.toArray from p) ?_
    refine ⟨s1.heap.objs.size, [s1.heap.objs.size], _, _, H1, rfl, I1.kept (t' := s1.toks) fun b o e => Heap.get?_push_of_some _ e, turn_tuple a _, ⟨_, Heap.get?_push_size _ rfl, rfl, rfl⟩, fun b hb => ?_, q⟩
    have e : b = s1.heap.objs.size := by simpa using hb
    subst e
    exact I1.fpOk (Nat.le_refl _) (I1.hok.fresh (Nat.le_refl _))
def iS (f : FE) : Fe (List D) := fun env n => match f env n with
  | some (.list ds, n1) => some (ds, n1)
  | some (.tuple ds, n1) => some (ds, n1)
  | _ => none
theorem wk_list {K : PySem.W.Frag} {tau : Option Addr} {T : Addr → Prop} {H1 : Hp} {a : Addr} {xs : List V} {ds : List D} (h : H1 a = some (.lst xs)) (n : ¬ T a) (l : ds.length ≤ sizeLine) (r : RpL K tau T H1 xs ds) : Wk K tau T (Itl K a) ds H1 := by
  refine ⟨l, fun T' H m c => ⟨fun i hi => ?_, ?_⟩⟩
  · obtain ⟨h2, n2⟩ := m a _ n h
    have r2 : RpL K tau T' H xs ds := r.move m
    obtain ⟨v, hv, rv⟩ := r2.get (List.getElem?_eq_getElem hi)
    refine ⟨⟨xs, v, SqL.of h2, hv⟩, fun x H' y => ?_⟩
    obtain ⟨rfl, y⟩ := y
    have e := y xs (SqL.of h2)
    rw [hv] at e
    cases e
    exact ⟨Same.refl _, _, List.getElem?_eq_getElem hi, rv⟩
  · obtain ⟨h2, n2⟩ := m a _ n h
    exact ⟨xs, SqL.of h2, by rw [r.length]; exact Nat.le_refl _⟩
theorem wk_tup {K : PySem.W.Frag} {tau : Option Addr} {T : Addr → Prop} {H1 : Hp} {a : Addr} {xs : List V} {ds : List D} (h : H1 a = some (.tup xs)) (n : ¬ T a) (l : ds.length ≤ sizeLine) (r : RpL K tau T H1 xs ds) : Wk K tau T (Itt K a) ds H1 := by
  refine ⟨l, fun T' H m c => ⟨fun i hi => ?_, ?_⟩⟩
  · obtain ⟨h2, n2⟩ := m a _ n h
    have r2 : RpL K tau T' H xs ds := r.move m
    obtain ⟨v, hv, rv⟩ := r2.get (List.getElem?_eq_getElem hi)
    refine ⟨⟨xs, v, SqT.of h2, hv⟩, fun x H' y => ?_⟩
    obtain ⟨rfl, y⟩ := y
    have e := y xs (SqT.of h2)
    rw [hv] at e
    cases e
    exact ⟨Same.refl _, _, List.getElem?_eq_getElem hi, rv⟩
  · obtain ⟨h2, n2⟩ := m a _ n h
    exact ⟨xs, SqT.of h2, by rw [r.length]; exact Nat.le_refl _⟩
theorem mi_seq (he : ME X e f) : MI X tg e (iS f) := by
  refine pi_imp (pi_seq he) fun σ H R q => ?_
  obtain ⟨tau, T, env, n, ds, n', RR, t, e, k⟩ := q
  unfold iS at e
  split at e
  · rename_i ds1 n1 h1
    cases e
    refine tM_run RR t h1 fun v H1 k1 R1 t1 r1 => ?_
    cases r1 with
    | lst g1 m1 l1 q1 => exact ⟨_, rfl, .inl ⟨⟨_, SqL.of g1⟩, k _ H1 k1 t1 (wk_list g1 m1 l1 q1)⟩⟩
  · rename_i ds1 n1 h1
    cases e
    refine tM_run RR t h1 fun v H1 k1 R1 t1 r1 => ?_
    cases r1 with
    | tup g1 m1 l1 q1 => exact ⟨_, rfl, .inr ⟨⟨_, SqT.of g1⟩, k _ H1 k1 t1 (wk_tup g1 m1 l1 q1)⟩⟩
  · cases e
/-! range -/
def rngD (lo : Int) (n : Nat) : List D := (List.range n).map fun i => .int (lo + (i : Nat))
theorem rngD_len (lo : Int) (n : Nat) : (rngD lo n).length = n := by unfold rngD; rw [List.length_map, List.length_range]
theorem rngD_get {lo : Int} {n i : Nat} (h : i < n) : (rngD lo n)[i]? = some (.int (lo + (i : Nat))) := by
  unfold rngD
  rw [List.getElem?_map, List.getElem?_range h]
  rfl
def iR1 (fs : Fe (List D)) : Fe (List D) := fun env n => match fs env n with
  | some ([.int j], n1) => if -(lim : Int) ≤ j ∧ j ≤ (lim : Int) then some (rngD 0 j.toNat, n1) else none
  | _ => none
def iR2 (fs : Fe (List D)) : Fe (List D) := fun env n => match fs env n with
  | some ([.int i, .int j], n1) => if -(lim : Int) ≤ i ∧ i ≤ (lim : Int) ∧ -(lim : Int) ≤ j ∧ j ≤ (lim : Int) ∧ (j - i).toNat ≤ lim then some (rngD i (j - i).toNat, n1) else none
  | _ => none
theorem wk_range {K : PySem.W.Frag} {tau : Option Addr} {T : Addr → Prop} {H1 : Hp} {lo : Int} {n : Nat} (h : n ≤ sizeLine) : Wk K tau T (Itr lo n) (rngD lo n) H1 := by
  refine ⟨by rw [rngD_len]; exact h, fun T' H m c => ⟨fun i hi => ?_, ?_⟩⟩
  · rw [rngD_len] at hi
    refine ⟨hi, fun x H' y => ?_⟩
    obtain ⟨rfl, rfl⟩ := y
    exact ⟨Same.refl _, _, rngD_get hi, .int _⟩
  · rw [rngD_len]
    exact Nat.le_refl n
theorem mi_range1 {p : Pos} (hg : Gl X "range") (hm : X.mg "range" = none) (ha : MA X [e] fs) (hs : starEach [e] X.env = [(false, eval e X.env)] := by rfl) : MI X tg (.Call (.Name "range" p) [e] [] pos) (iR1 fs) := by
  refine pi_imp (pi_range1 hg hm ha hs) fun σ H R q => ?_
  obtain ⟨tau, T, env, n, ds, n', RR, t, e, k⟩ := q
  unfold iR1 at e
  split at e
  · rename_i j n1 h1
    split at e
    · rename_i hj
      cases e
      refine tMA_run RR t h1 fun v H1 k1 R1 t1 r1 => ?_
      obtain ⟨u, rfl, r2⟩ := rpl1 r1
      cases r2
      unfold lim at hj
      exact ⟨j, rfl, by omega, by omega, k _ H1 k1 t1 (wk_range (by rw [sizeLine_eq]; omega))⟩
    · cases e
  · cases e
theorem mi_range2 {e2 : Expr} {p : Pos} (hg : Gl X "range") (hm : X.mg "range" = none) (ha : MA X [e, e2] fs) (hs : starEach [e, e2] X.env = [(false, eval e X.env), (false, eval e2 X.env)] := by rfl) (hs2 : starEach [e2] X.env = [(false, eval e2 X.env)] := by rfl) : MI X tg (.Call (.Name "range" p) [e, e2] [] pos) (iR2 fs) := by
  refine pi_imp (pi_range2 hg hm ha hs hs2) fun σ H R q => ?_
  obtain ⟨tau, T, env, n, ds, n', RR, t, e, k⟩ := q
  unfold iR2 at e
  split at e
  · rename_i i j n1 h1
    split at e
    · rename_i hj
      cases e
      refine tMA_run RR t h1 fun v H1 k1 R1 t1 r1 => ?_
      obtain ⟨u, u2, rfl, r2, r3⟩ := rpl2 r1
      cases r2
      cases r3
      unfold lim at hj
      exact ⟨i, j, rfl, ⟨by omega, by omega, by omega, by omega⟩, k _ H1 k1 t1 (wk_range (by rw [sizeLine_eq]; omega))⟩
    · cases e
  · cases e
end

/-! ### list comprehensions -/
def lcGo (env : En) (t : Tg) (ft : Fe Bool) (fe : FE) : List D → Nat → Option (List D × Nat)
  | [], n => some ([], n)
  | x :: r, n => match bindE t x env with
    | some env' => (match ft env' n with
      | some (true, n1) => (match fe env' n1 with
        | some (y, n2) => (match lcGo env t ft fe r n2 with
          | some (ys, n3) => some (y :: ys, n3)
          | none => none)
        | none => none)
      | some (false, n1) => lcGo env t ft fe r n1
      | none => none)
    | none => none
def eLc (own : List Nat) (fi : Fe (List D)) (t : Tg) (ft : Fe Bool) (fe : FE) : Fe (List D) := fun env n => match fi env n with
  | some (items, n1) => lcGo (wipeE env own) t ft fe items n1
  | none => none
def eList (f : Fe (List D)) : FE := fun env n => match f env n with
  | some (ds, n1) => some (.list ds, n1)
  | none => none
/-- a list that is new -/
def tMF (K : PySem.W.Frag) (f : Fe (List D)) : TE := fun σ H Q => ∃ (tau : Option Addr) (T : Addr → Prop) (env : En) (n : Nat) (ds : List D) (n' : Nat),
  RE K tau T env σ H ∧ Town tau n H ∧ f env n = some (ds, n') ∧ ∀ p xs H', Keep tau H H' → Town tau n' H' → H p = none → H' p = some (.lst xs) → ds.length ≤ sizeLine → RpL K tau (fun a => T a ∨ a = p) H' xs ds → Q (.ref p) H'
abbrev MF (X : Cx) (e : Expr) (f : Fe (List D)) : Prop := PE X e (tMF X.K f)
theorem MF.me {X : Cx} {e : Expr} {f : Fe (List D)} (h : MF X e f) : ME X e (eList f) := by
  refine pe_imp h fun σ H Q q => ?_
  obtain ⟨tau, T, env, n, d, n', R, t, e, k⟩ := q
  unfold eList at e
  split at e
  · rename_i ds n1 h1
    cases e
    refine ⟨tau, T, env, n, ds, _, R, t, h1, fun p xs H' k1 t1 hp hp' l r => k _ H' k1 t1 (.lst hp' (R.ok.notIn hp) l (r.less fun a ha => .inl ha))⟩
  · cases e
/-- the tests of a clause -/
def bYes : Fe Bool := fun _ n => some (true, n)
abbrev MTs (X : Cx) (ifs : List Expr) (f : Fe Bool) : Prop := PTs X ifs (tMT X.K f)
theorem pts_imp {X : Cx} {ifs : List Expr} {t t' : TT} (h : PTs X ifs t) (i : ∀ σ H Q, t' σ H Q → t σ H Q) : PTs X ifs t' := ⟨fun pins s σ H Q I hw => h.run pins s σ H Q I (i _ _ _ hw)⟩
theorem mts_nil {X : Cx} : MTs X [] bYes := by
  refine pts_imp pts_nil fun σ H Q q => ?_
  obtain ⟨tau, T, env, n, d, n', R, t, e, k⟩ := q
  cases e
  exact k H (Keep.refl H) t
theorem mts_one {X : Cx} {c : Expr} {f : Fe Bool} (h : MT X c f) : MTs X [c] f := pts_one h
section
variable {K : PySem.W.Frag}
theorem tLc_of {fi : Fe (List D)} {t : Tg} {ft : Fe Bool} {fe : FE} {own : List Nat} (hs : ∀ i ∈ t.slots, i ∈ own) : ∀ σ H Q, tMF K (eLc own fi t ft fe) σ H Q → tLc (iM K fi) (gOf K t) (tMT K ft) (tM K fe) own σ H Q := by
  intro σ H Q q
  obtain ⟨tau, T, env, n, ds, n', R, tn, e, k⟩ := q
  unfold eLc at e
  split at e
  · rename_i items n1 h1
    refine ⟨tau, T, env, n, items, n1, R, tn, h1, fun J H1 k1 t1 wk Dd hD => ?_⟩
    have R1 : RE K tau T env σ H1 := R.keep k1 t1
    have hDt : tau ≠ some Dd := fun z => by rw [t1 Dd z] at hD; cases hD
    have hDT : ¬ T Dd := R1.ok.notIn hD
    -- what holds at turn i
    refine ⟨fun i m Hi => m = items.length - i ∧ i ≤ items.length ∧ ∃ (ni : Nat) (acc : List V) (accD rest : List D), Keep tau H1 Hi ∧ Town tau ni Hi ∧ Hi Dd = some (.lst acc) ∧
      RpL K tau (fun a => T a ∨ a = Dd) Hi acc accD ∧ accD.length ≤ i ∧ lcGo (wipeE env own) t ft fe (items.drop i) ni = some (rest, n') ∧ accD ++ rest = ds, ?_, ?_⟩
    · refine ⟨items.length, by simp, Nat.zero_le _, n1, [], [], ds, Keep.of_same (same_upd hD), t1.of_same (same_upd hD), upd_same, .nil, Nat.zero_le _, e, rfl⟩
    · rintro i m Hi ⟨rfl, hi, ni, acc, accD, rest, ki, ti, hDi, ri, la, eg, ea⟩
      -- the context with the new list set apart
      have mv : ∀ a x, ¬ T a → H1 a = some x → Hi a = some x ∧ ¬ (T a ∨ a = Dd) := fun a x na ha =>
        ⟨ki a x (fun z => na (R.ok.tau a z)) ha, fun z => z.elim na fun q => by rw [q, hD] at ha; cases ha⟩
      have c2 : Cok tau (fun a => T a ∨ a = Dd) Hi := ⟨fun a z => .inl (R.ok.tau a z), fun a z => by
        rcases z with z | z
        · have hz := (R1.ok.keep ki ti).tin a z
          exact hz
        · rw [z, hDi]; exact fun q => nomatch q⟩
      obtain ⟨go, st⟩ := wk.run _ Hi mv c2
      by_cases hlt : i < items.length
      · obtain ⟨g1, g2⟩ := go i hlt
        have hdrop : items.drop i = items[i] :: items.drop (i + 1) := List.drop_eq_getElem_cons hlt
        rw [hdrop] at eg
        unfold lcGo at eg
        split at eg
        · rename_i env' hb
          refine .inr ⟨g1, fun Hn => i + 1 ≤ items.length ∧ ∃ (ni : Nat) (acc : List V) (accD rest : List D), Keep tau H1 Hn ∧ Town tau ni Hn ∧ Hn Dd = some (.lst acc) ∧
            RpL K tau (fun a => T a ∨ a = Dd) Hn acc accD ∧ accD.length ≤ i + 1 ∧ lcGo (wipeE env own) t ft fe (items.drop (i + 1)) ni = some (rest, n') ∧ accD ++ rest = ds, ?_, ?_⟩
          · rintro Hn ⟨q1, q2⟩
            exact ⟨items.length - (i + 1), by omega, rfl, q1, q2⟩
          · intro x H' hy
            obtain ⟨sm, d, hd, rx⟩ := g2 x H' hy
            rw [List.getElem?_eq_getElem hlt] at hd
            cases hd
            have t' : Town tau ni H' := ti.of_same sm
            have R2 : RE K tau (fun a => T a ∨ a = Dd) (wipeE env own) (wipe σ own) H' := by
              refine ⟨c2.same sm, by rw [wipeE_length, wipe_length]; exact R.len, fun j d' ej => ?_⟩
              obtain ⟨v, h3, h4⟩ := (R1.wipe own).get j d' ej
              exact ⟨v, h3, (h4.move mv).same sm c2.tau⟩
            have hD' : H' Dd = some (.lst acc) := sm _ _ hDi
            refine gOf_run R2 rx hb fun vs R3 => ⟨wipe_bind hs, ?_⟩
            split at eg
            · rename_i n2 h2
              refine tMT_run R3 t' h2 fun H3 k3 R4 t3 => ?_
              rw [if_pos rfl]
              split at eg
              · rename_i y n3 h3
                refine tM_run R4 t3 h3 fun v H4 k4 R5 t4 r4 => ?_
                have hD4 : H4 Dd = some (.lst acc) := k4 _ _ hDt (k3 _ _ hDt hD')
                have ra : RpL K tau (fun a => T a ∨ a = Dd) H4 acc accD := ((ri.same sm c2.tau).keep k3 c2.tau).keep k4 c2.tau
                refine ⟨acc, hD4, ?_, ?_⟩
                · rw [ra.length]
                  have := wk.len
                  omega
                · split at eg
                  · rename_i ys n5 h5
                    cases eg
                    have kk : Keep tau H1 H4 := ((ki.trans (Keep.of_same sm)).trans k3).trans k4
                    refine ⟨hlt, n3, acc ++ [v], accD ++ [y], ys, fun a o na ha => ?_, fun a ha => ?_, upd_same, ?_, by rw [List.length_append]; simp; omega, h5, ?_⟩
                    · have : a ≠ Dd := ne_of_none ha hD
                      rw [upd_ne this]
                      exact kk a o na ha
                    · have : a ≠ Dd := fun z => hDt (by rw [← z]; exact ha)
                      rw [upd_ne this]
                      exact t4 a ha
                    · exact (ra.append (.cons r4 .nil)).move fun a x na hx => ⟨by rw [upd_ne (fun z => na (.inr z))]; exact hx, na⟩
                    · rw [List.append_assoc]; exact ea
                  · cases eg
              · cases eg
            · rename_i n2 h2
              refine tMT_run R3 t' h2 fun H3 k3 R4 t3 => ?_
              rw [if_neg Bool.false_ne_true]
              exact ⟨hlt, n2, acc, accD, rest, (ki.trans (Keep.of_same sm)).trans k3, t3, k3 _ _ hDt hD', (ri.same sm c2.tau).keep k3 c2.tau, by omega, eg, ea⟩
            · cases eg
        · cases eg
      · have hie : i = items.length := by omega
        subst hie
        rw [List.drop_length] at eg
        cases eg
        rw [List.append_nil] at ea
        subst ea
        refine .inl ⟨st, k Dd acc Hi (k1.trans ki) ti ?_ hDi (by have := wk.len; omega) ri⟩
        cases qH : H Dd with
        | none => rfl
        | some o => rw [k1 Dd o hDt qH] at hD; cases hD
  · cases e
theorem me_lcF {X : Cx} {elt tg iter : Expr} {ifs : List Expr} {scope : Scope} {own : List (Str × Nat)} {pos : Pos} {fi : Fe (List D)} {t : Tg} {ft : Fe Bool} {fe : FE} (hc : X.calm = true) (hN : X.N.Nodup) (hi : MI X tg iter fi) (ok : BlkOk X.N X.env.scope scope own)
    (hg : ∀ (s : Shared) (H : Hp) (C : Addr) (cl : List (Str × Addr)) (fp : List Addr), MG (X.blk s H scope (compEnvC scope cl C X.env) fp) tg t) (ht : ∀ (s : Shared) (H : Hp) (C : Addr) (cl : List (Str × Addr)) (fp : List Addr), MTs (X.blk s H scope (compEnvC scope cl C X.env) fp) ifs ft)
    (he : ∀ (s : Shared) (H : Hp) (C : Addr) (cl : List (Str × Addr)) (fp : List Addr), ME (X.blk s H scope (compEnvC scope cl C X.env) fp) elt fe) (hsl : ∀ i ∈ t.slots, i ∈ own.map (·.2)) (hs : ∀ x, foldedSetIterable iter X.env x = pure x := by intro _; rfl) :
    MF X (.ListComp elt [⟨tg, iter, ifs, 0⟩] scope pos) (eLc (own.map (·.2)) fi t ft fe) :=
  pe_imp (pe_lc hc hN hi ok hg ht he hs) (tLc_of hsl)
end


/-! ### functions -/
inductive Rs where
  | ok (d : D)
  | ex (c : Str)
abbrev Fn := List D → Nat → Option (Rs × Nat)
/-- a list that is new since H -/
def NewL (K : PySem.W.Frag) (tau : Option Addr) (T : Addr → Prop) (H H' : Hp) (v : V) (d : D) : Prop :=
  ∃ p xs ds, v = .ref p ∧ d = .list ds ∧ H p = none ∧ H' p = some (.lst xs) ∧ ds.length ≤ sizeLine ∧ RpL K tau (fun a => T a ∨ a = p) H' xs ds
/-- a def's promise by its mirror -/
def spX (K : PySem.W.Frag) (mg : Str → Option Value) (ar : Nat) (fr : Bool) (m : Fn) : Sp := fun vs H Q E => ∃ (tau : Option Addr) (T : Addr → Prop) (ds : List D) (n : Nat) (r : Rs) (n' : Nat),
  Cok tau T H ∧ RpL K tau T H vs ds ∧ ds.length = ar ∧ Town tau n H ∧ m ds n = some (r, n') ∧ match r with
    | .ok d => ∀ v H', Keep tau H H' → Town tau n' H' → Rp K tau T H' v d → (fr = true → NewL K tau T H H' v d) → Q v H'
    | .ex c => ∀ C H', mg c = some (.ref C) → Keep tau H H' → Town tau n' H' → E (.ref C) none H'
structure Has (P : Program) (w : World) (K : PySem.W.Frag) (mg : Str → Option Value) (base : Heap) (x : Str) (k ar : Nat) (fr : Bool) (m : Fn) : Prop where
  ex : ∃ (f : Addr) (fd : FuncData) (ps : List Str), FnOk P w K mg base (L2.CX P w) k f fd ps (spX K mg ar fr m) ∧ mg x = some (.ref f) ∧ PySem.W.keepIn K (.ref f) = true ∧ Binds K fd ps []
def eCall (m : Fn) (fs : Fe (List D)) : FE := fun env n => match fs env n with
  | some (ds, n1) => (match m ds n1 with
    | some (.ok d, n2) => some (d, n2)
    | _ => none)
  | none => none
theorem m_len {m : Fn} {ar : Nat} {ds : List D} {n n' : Nat} {r : Rs} (h : ∀ ds n, ds.length ≠ ar → m ds n = none) (e : m ds n = some (r, n')) : ds.length = ar := by
  by_cases q : ds.length = ar
  · exact q
  · rw [h ds n q] at e; cases e
section
variable {X : Cx} {e : Expr} {es : List Expr} {pos p : Pos} {fs : Fe (List D)} {x : Str} {j k ar : Nat} {fr : Bool} {m : Fn}
theorem me_call (h : Has X.prog X.w X.K X.mg X.base x k ar fr m) (hl : ∀ ds n, ds.length ≠ ar → m ds n = none) (hr : Room j X.A) (hk : k ≤ j) (hg : Gl X x) (ha : MA X (e :: es) fs)
    (hdb : (x == ("__debug__" : Str)) = false := by decide) (he : starEach (e :: es) X.env = (false, eval e X.env) :: starEach es X.env := by rfl) (hpl : (backTo pos (starEach es X.env)).any (·.1) = false := by rfl) :
    ME X (.Call (.Name x p) (e :: es) [] pos) (eCall m fs) := by
  obtain ⟨f, fd, ps, F, hm, hkp, hb⟩ := h.ex
  refine pe_imp (pe_call (E := E0) F (hr.mono hk) hg hm hkp hb .nil passL ha hdb he hpl) fun σ H Q q => ?_
  obtain ⟨tau, T, env, n, d, n', R, t, e, k⟩ := q
  unfold eCall at e
  split at e
  · rename_i ds n1 h1
    split at e
    · rename_i d2 n2 h2
      cases e
      refine tMA_run R t h1 fun v H1 k1 R1 t1 r1 => ?_
      refine ⟨tau, T, ds, n1, .ok d, _, R1.ok, by rw [List.append_nil]; exact r1, m_len hl h2, t1, h2, fun v' H' k2 t2 r2 _ => k v' H' (k1.trans k2) t2 r2⟩
    · cases e
  · cases e
def eCallL (m : Fn) (fs : Fe (List D)) : Fe (List D) := fun env n => match fs env n with
  | some (ds, n1) => (match m ds n1 with
    | some (.ok (.list ds'), n2) => some (ds', n2)
    | _ => none)
  | none => none
/-- a call that hands back a new list -/
theorem me_callF (h : Has X.prog X.w X.K X.mg X.base x k ar true m) (hl : ∀ ds n, ds.length ≠ ar → m ds n = none) (hr : Room j X.A) (hk : k ≤ j) (hg : Gl X x) (ha : MA X (e :: es) fs)
    (hdb : (x == ("__debug__" : Str)) = false := by decide) (he : starEach (e :: es) X.env = (false, eval e X.env) :: starEach es X.env := by rfl) (hpl : (backTo pos (starEach es X.env)).any (·.1) = false := by rfl) :
    MF X (.Call (.Name x p) (e :: es) [] pos) (eCallL m fs) := by
  obtain ⟨f, fd, ps, F, hm, hkp, hb⟩ := h.ex
  refine pe_imp (pe_call (E := E0) F (hr.mono hk) hg hm hkp hb .nil passL ha hdb he hpl) fun σ H Q q => ?_
  obtain ⟨tau, T, env, n, d, n', R, t, e, k⟩ := q
  unfold eCallL at e
  split at e
  · rename_i ds n1 h1
    split at e
    · rename_i d2 n2 h2
      cases e
      refine tMA_run R t h1 fun v H1 k1 R1 t1 r1 => ?_
      refine ⟨tau, T, ds, n1, _, _, R1.ok, by rw [List.append_nil]; exact r1, m_len hl h2, t1, h2, fun v' H' k2 t2 r2 hf => ?_⟩
      obtain ⟨q, xs, ds', rfl, e', hp, hp', l, rl⟩ := hf rfl
      cases e'
      refine k q xs H' (k1.trans k2) t2 ?_ hp' l rl
      have hqt : tau ≠ some q := fun z => by rw [t1 q z] at hp; cases hp
      cases qH : H q with
      | none => rfl
      | some o => rw [k1 q o hqt qH] at hp; cases hp
    · cases e
  · cases e
end

/-! ### slots: plain data; a list of one's own; a list of lists of one's own -/
inductive SV where
  | val (d : D)
  | own (ds : List D)
  | own2 (dss : List (List D))
abbrev Es := List (Option SV)
def SV.d : SV → D
  | .val d => d
  | .own ds => .list ds
  | .own2 dss => .list (dss.map .list)
def frz1 : Option SV → Option D
  | some sv => some sv.d
  | none => none
def hid1 : Option SV → Option D
  | some (.val d) => some d
  | _ => none
def frzE (S : Es) : En := S.map frz1
def hidE (S : Es) : En := S.map hid1
inductive Rows (K : PySem.W.Frag) (tau : Option Addr) (T : Addr → Prop) (H : Hp) : List Addr → List (List D) → Prop where
  | nil : Rows K tau T H [] []
  | cons {b : Addr} {bs : List Addr} {ds : List D} {dss : List (List D)} (xs : List V) : H b = some (.lst xs) → ds.length ≤ sizeLine → RpL K tau T H xs ds → Rows K tau T H bs dss → Rows K tau T H (b :: bs) (ds :: dss)
def SvRp (K : PySem.W.Frag) (tau : Option Addr) (T : Addr → Prop) (H : Hp) (o : Addr → Option Nat) (i : Nat) (v : V) : SV → Prop
  | .val d => Rp K tau T H v d
  | .own ds => ∃ a xs, v = .ref a ∧ o a = some i ∧ H a = some (.lst xs) ∧ ds.length ≤ sizeLine ∧ RpL K tau T H xs ds
  | .own2 dss => ∃ a bs, v = .ref a ∧ o a = some i ∧ (a :: bs).Nodup ∧ (∀ b ∈ bs, o b = some i) ∧ H a = some (.lst (bs.map V.ref)) ∧ dss.length ≤ sizeLine ∧ Rows K tau T H bs dss
def tOf (T0 : Addr → Prop) (o : Addr → Option Nat) : Addr → Prop := fun a => T0 a ∨ ∃ j, o a = some j
def noTup : HO → Prop
  | .tup _ => False
  | _ => True
structure RS (K : PySem.W.Frag) (Fz : Hp) (tau : Option Addr) (T0 : Addr → Prop) (S : Es) (n : Nat) (σ : L2.St) (H : Hp) (o : Addr → Option Nat) : Prop where
  fz : ∀ a x, Fz a = some x → H a = some x ∧ o a = none ∧ tau ≠ some a
  ta : ∀ a, tau = some a → T0 a ∧ o a = none
  tin : ∀ a, T0 a → Fz a ≠ none ∨ tau = some a
  own : ∀ a j, o a = some j → ∃ x, H a = some x ∧ noTup x
  town : Town tau n H
  len : S.length = σ.length
  slot : ∀ (i : Nat) (sv : SV), S[i]? = some (some sv) → ∃ v, σ[i]? = some (some v) ∧ SvRp K tau (tOf T0 o) H o i v sv
section
variable {K : PySem.W.Frag} {Fz : Hp} {tau : Option Addr} {T T' T0 : Addr → Prop} {S : Es} {n n' : Nat} {σ : L2.St} {H H' : Hp} {o o' : Addr → Option Nat}
theorem Rows.move (m : ∀ a x, ¬ T a → H a = some x → H' a = some x ∧ ¬ T' a) : ∀ {bs : List Addr} {dss : List (List D)}, (∀ b ∈ bs, ∀ x, H b = some x → H' b = some x) → Rows K tau T H bs dss → Rows K tau T' H' bs dss
  | _, _, _, .nil => .nil
  | _, _, hb, .cons xs h l r t => .cons xs (hb _ List.mem_cons_self _ h) l (r.move m) (Rows.move m (fun b hm => hb b (List.mem_cons_of_mem _ hm)) t)
theorem SvRp.move {i : Nat} {v : V} {sv : SV} (m : ∀ a x, ¬ T a → H a = some x → H' a = some x ∧ ¬ T' a) (hk : ∀ a x, o a = some i → H a = some x → H' a = some x) (ho : ∀ a, o a = some i → o' a = some i) (h : SvRp K tau T H o i v sv) : SvRp K tau T' H' o' i v sv := by
  cases sv with
  | val d => exact Rp.move m h
  | own ds =>
    obtain ⟨a, xs, rfl, h1, h2, l, r⟩ := h
    exact ⟨a, xs, rfl, ho a h1, hk a _ h1 h2, l, r.move m⟩
  | own2 dss =>
    obtain ⟨a, bs, rfl, h1, hn, h2, h3, l, r⟩ := h
    exact ⟨a, bs, rfl, ho a h1, hn, fun b hb => ho b (h2 b hb), hk a _ h1 h3, l, r.move m fun b hb x e => hk b x (h2 b hb) e⟩
theorem RS.cok (R : RS K Fz tau T0 S n σ H o) : Cok tau (tOf T0 o) H := by
  refine ⟨fun a h => .inl (R.ta a h).1, fun a h => ?_⟩
  rcases h with h | ⟨j, h⟩
  · rcases R.tin a h with z | z
    · cases q : Fz a with
      | none => exact absurd q z
      | some x => rw [(R.fz a x q).1]; exact fun y => nomatch y
    · rw [R.town a z]; exact fun y => nomatch y
  · obtain ⟨x, hx, _⟩ := R.own a j h
    rw [hx]; exact fun y => nomatch y
theorem RS.cok0 (R : RS K Fz tau T0 S n σ H o) : Cok tau T0 H := ⟨fun a h => (R.ta a h).1, fun a h => R.cok.tin a (.inl h)⟩
theorem RS.keep (R : RS K Fz tau T0 S n σ H o) (k : Keep tau H H') (t : Town tau n' H') : RS K Fz tau T0 S n' σ H' o := by
  refine ⟨fun a x h => ?_, R.ta, R.tin, fun a j h => ?_, t, R.len, fun i sv h => ?_⟩
  · obtain ⟨h1, h2, h3⟩ := R.fz a x h
    exact ⟨k a x h3 h1, h2, h3⟩
  · obtain ⟨x, hx, hn⟩ := R.own a j h
    exact ⟨x, k a x (fun z => by rw [(R.ta a z).2] at h; cases h) hx, hn⟩
  · obtain ⟨v, h1, h2⟩ := R.slot i sv h
    exact ⟨v, h1, h2.move (fun a x na hx => ⟨k a x (fun z => na (.inl (R.ta a z).1)) hx, na⟩) (fun a x ha hx => k a x (fun z => by rw [(R.ta a z).2] at ha; cases ha) hx) fun a h => h⟩
theorem frz_get {i : Nat} {d : D} (h : (frzE S)[i]? = some (some d)) : ∃ sv, S[i]? = some (some sv) ∧ sv.d = d := by
  unfold frzE at h
  rw [List.getElem?_map] at h
  cases q : S[i]? with
  | none => rw [q] at h; cases h
  | some z =>
    rw [q] at h
    cases z with
    | none => cases h
    | some sv => cases h; exact ⟨sv, rfl, rfl⟩
theorem hid_get {i : Nat} {d : D} (h : (hidE S)[i]? = some (some d)) : S[i]? = some (some (.val d)) := by
  unfold hidE at h
  rw [List.getElem?_map] at h
  cases q : S[i]? with
  | none => rw [q] at h; cases h
  | some z =>
    rw [q] at h
    cases z with
    | none => cases h
    | some sv =>
      cases sv with
      | val d' => cases h; rfl
      | own _ => cases h
      | own2 _ => cases h
theorem rows_rp {bs : List Addr} {dss : List (List D)} (h : Rows K tau T H bs dss) (hb : ∀ b ∈ bs, ¬ T0 b) (hT : ∀ a, T0 a → T a) : RpL K tau T0 H (bs.map V.ref) (dss.map .list) := by
  induction h with
  | nil => exact .nil
  | cons xs h l r t ih => exact .cons (.lst h (hb _ List.mem_cons_self) l (r.less hT)) (ih fun b hm => hb b (List.mem_cons_of_mem _ hm))
/-- one's own cells are none of the caller's -/
theorem RS.own0 (R : RS K Fz tau T0 S n σ H o) {a : Addr} {j : Nat} (h : o a = some j) : ¬ T0 a := fun z => by
  rcases R.tin a z with q | q
  · cases q2 : Fz a with
    | none => exact q q2
    | some x => rw [(R.fz a x q2).2.1] at h; cases h
  · rw [(R.ta a q).2] at h; cases h
theorem SvRp.d {i : Nat} {v : V} {sv : SV} (R : RS K Fz tau T0 S n σ H o) (h : SvRp K tau (tOf T0 o) H o i v sv) : Rp K tau T0 H v sv.d := by
  cases sv with
  | val d => exact Rp.less (fun a z => .inl z) h
  | own ds =>
    obtain ⟨a, xs, rfl, h1, h2, l, r⟩ := h
    exact .lst h2 (R.own0 h1) l (r.less fun a z => .inl z)
  | own2 dss =>
    obtain ⟨a, bs, rfl, h1, hn, h2, h3, l, r⟩ := h
    exact .lst h3 (R.own0 h1) (by rw [List.length_map]; exact l) (rows_rp r (fun b hb => R.own0 (h2 b hb)) fun a z => .inl z)
theorem RS.frz (R : RS K Fz tau T0 S n σ H o) : RE K tau T0 (frzE S) σ H := by
  refine ⟨R.cok0, by unfold frzE; rw [List.length_map]; exact R.len, fun i d h => ?_⟩
  obtain ⟨sv, h1, rfl⟩ := frz_get h
  obtain ⟨v, h2, h3⟩ := R.slot i sv h1
  exact ⟨v, h2, h3.d R⟩
theorem RS.hid (R : RS K Fz tau T0 S n σ H o) : RE K tau (tOf T0 o) (hidE S) σ H := by
  refine ⟨R.cok, by unfold hidE; rw [List.length_map]; exact R.len, fun i d h => ?_⟩
  obtain ⟨v, h2, h3⟩ := R.slot i _ (hid_get h)
  exact ⟨v, h2, h3⟩
/-- THE STEP: slot i is told anew, its own cells may have changed, new ones may have come -/
theorem RS.upd {i : Nat} {v' : V} {sv' : SV} (R : RS K Fz tau T0 S n σ H o) (h1 : ∀ a x, H a = some x → o a ≠ some i → H' a = some x) (h2 : ∀ a j, j ≠ i → (o' a = some j ↔ o a = some j)) (h3 : ∀ a, o' a = some i → o a = some i ∨ H a = none)
    (h4 : ∀ a, o' a = some i → ∃ x, H' a = some x ∧ noTup x) (h5 : SvRp K tau (tOf T0 o') H' o' i v' sv') : RS K Fz tau T0 (S.set i (some sv')) n (σ.set i (some v')) H' o' := by
  have no : ∀ a, o a = none → H a ≠ none → o' a = none := fun a ha hn => by
    cases q : o' a with
    | none => rfl
    | some j =>
      by_cases hj : j = i
      · subst hj
        rcases h3 a q with z | z
        · rw [ha] at z; cases z
        · exact absurd z hn
      · rw [(h2 a j hj).mp q] at ha; cases ha
  refine ⟨fun a x h => ?_, fun a h => ?_, R.tin, fun a j h => ?_, fun a h => ?_, by rw [List.length_set, List.length_set]; exact R.len, fun j sv h => ?_⟩
  · obtain ⟨q1, q2, q3⟩ := R.fz a x h
    exact ⟨h1 a x q1 (by rw [q2]; exact fun z => nomatch z), no a q2 (by rw [q1]; exact fun z => nomatch z), q3⟩
  · obtain ⟨q1, q2⟩ := R.ta a h
    exact ⟨q1, no a q2 (by rw [R.town a h]; exact fun z => nomatch z)⟩
  · by_cases hj : j = i
    · subst hj; exact h4 a h
    · obtain ⟨x, hx, hn⟩ := R.own a j ((h2 a j hj).mp h)
      exact ⟨x, h1 a x hx (by rw [(h2 a j hj).mp h]; exact fun z => hj (Option.some.inj z)), hn⟩
  · exact h1 a _ (R.town a h) (by rw [(R.ta a h).2]; exact fun z => nomatch z)
  · by_cases hj : i = j
    · subst hj
      by_cases hl : i < S.length
      · rw [List.getElem?_set_self hl] at h
        cases h
        exact ⟨v', List.getElem?_set_self (by rw [← R.len]; exact hl), h5⟩
      · rw [List.getElem?_eq_none (by rw [List.length_set]; omega)] at h
        cases h
    · rw [List.getElem?_set_ne hj] at h ⊢
      obtain ⟨v, q1, q2⟩ := R.slot j sv h
      refine ⟨v, q1, q2.move (fun a x na hx => ?_) (fun a x ha hx => h1 a x hx (by rw [ha]; exact fun z => hj (Option.some.inj z).symm)) fun a ha => (h2 a j (Ne.symm hj)).mpr ha⟩
      have oa : o a = none := by
        cases q : o a with
        | none => rfl
        | some k => exact absurd (.inr ⟨k, q⟩) na
      refine ⟨h1 a x hx (by rw [oa]; exact fun z => nomatch z), fun z => ?_⟩
      rcases z with z | ⟨k, z⟩
      · exact na (.inl z)
      · rw [no a oa (by rw [hx]; exact fun z => nomatch z)] at z; cases z
/-- slot i forgets what it owned -/
def drop1 (o : Addr → Option Nat) (i : Nat) : Addr → Option Nat := fun a => if o a = some i then none else o a
theorem drop1_ne {i j : Nat} {a : Addr} (hj : j ≠ i) : drop1 o i a = some j ↔ o a = some j := by
  unfold drop1
  split
  · rename_i h
    rw [h]
    exact ⟨fun z => (by cases z), fun z => absurd (Option.some.inj z).symm hj⟩
  · exact Iff.rfl
theorem drop1_eq {i : Nat} {a : Addr} : drop1 o i a ≠ some i := by
  unfold drop1
  split
  · exact fun z => nomatch z
  · assumption
theorem drop1_sub {i : Nat} {a : Addr} {j : Nat} (h : drop1 o i a = some j) : o a = some j := by
  unfold drop1 at h
  split at h
  · cases h
  · exact h
theorem RS.setVal {i : Nat} {v : V} {d : D} (R : RS K Fz tau T0 S n σ H o) (r : Rp K tau (tOf T0 o) H v d) : RS K Fz tau T0 (S.set i (some (.val d))) n (σ.set i (some v)) H (drop1 o i) :=
  R.upd (fun a x h _ => h) (fun a j hj => drop1_ne hj) (fun a h => absurd h drop1_eq) (fun a h => absurd h drop1_eq) (Rp.less (fun a z => z.imp_right fun ⟨j, h⟩ => ⟨j, drop1_sub h⟩) r)
/-- slot i owns the new list at p -/
def own1 (o : Addr → Option Nat) (i : Nat) (p : Addr) : Addr → Option Nat := fun a => if a = p then some i else drop1 o i a
theorem RS.setOwn {i : Nat} {p : Addr} {xs : List V} {ds : List D} (R : RS K Fz tau T0 S n σ H o) (k : Keep tau H H') (t : Town tau n' H') (hp : H p = none) (hp' : H' p = some (.lst xs)) (l : ds.length ≤ sizeLine) (r : RpL K tau (fun a => tOf T0 o a ∨ a = p) H' xs ds) :
    RS K Fz tau T0 (S.set i (some (.own ds))) n' (σ.set i (some (.ref p))) H' (own1 o i p) := by
  have R0 : RS K Fz tau T0 S n' σ H' o := R.keep k t
  have op : o p = none := by
    cases q : o p with
    | none => rfl
    | some j =>
      obtain ⟨x, hx, _⟩ := R.own p j q
      rw [hp] at hx; cases hx
  have np : Fz p = none := by
    cases q : Fz p with
    | none => rfl
    | some x => rw [(R.fz p x q).1] at hp; cases hp
  have tp : tau ≠ some p := fun z => by rw [R.town p z] at hp; cases hp
  have sub : ∀ a, tOf T0 (own1 o i p) a → tOf T0 o a ∨ a = p := fun a z => by
    rcases z with z | ⟨j, z⟩
    · exact .inl (.inl z)
    · unfold own1 at z
      split at z
      · exact .inr (by assumption)
      · exact .inl (.inr ⟨j, drop1_sub z⟩)
  have no : ∀ a x, H a = some x → o a = none → own1 o i p a = none := fun a x ha hn => by
    unfold own1
    rw [if_neg (fun z => by rw [z, hp] at ha; cases ha)]
    unfold drop1
    rw [hn]
    exact if_neg (fun z => nomatch z)
  have ow : ∀ a j, j ≠ i → (own1 o i p a = some j ↔ o a = some j) := fun a j hj => by
    unfold own1
    by_cases ha : a = p
    · rw [if_pos ha, ha, op]
      exact ⟨fun z => absurd (Option.some.inj z).symm hj, fun z => nomatch z⟩
    · rw [if_neg ha]
      exact drop1_ne hj
  refine ⟨fun a x h => ?_, fun a h => ?_, R.tin, fun a j h => ?_, t, by rw [List.length_set, List.length_set]; exact R.len, fun j sv h => ?_⟩
  · obtain ⟨q1, q2, q3⟩ := R.fz a x h
    exact ⟨k a x q3 q1, no a x q1 q2, q3⟩
  · obtain ⟨q1, q2⟩ := R.ta a h
    exact ⟨q1, no a _ (R.town a h) q2⟩
  · unfold own1 at h
    split at h
    · rename_i ha
      rw [ha]
      exact ⟨_, hp', trivial⟩
    · exact R0.own a j (drop1_sub h)
  · by_cases hj : i = j
    · subst hj
      by_cases hl : i < S.length
      · rw [List.getElem?_set_self hl] at h
        cases h
        refine ⟨.ref p, List.getElem?_set_self (by rw [← R.len]; exact hl), p, xs, rfl, by unfold own1; rw [if_pos rfl], hp', l, r.less sub⟩
      · rw [List.getElem?_eq_none (by rw [List.length_set]; omega)] at h
        cases h
    · rw [List.getElem?_set_ne hj] at h ⊢
      obtain ⟨v, q1, q2⟩ := R.slot j sv h
      refine ⟨v, q1, q2.move (fun a x na hx => ⟨k a x (fun z => na (.inl (R.ta a z).1)) hx, fun z => ?_⟩) (fun a x ha hx => k a x (fun z => by rw [(R.ta a z).2] at ha; cases ha) hx) fun a ha => (ow a j (Ne.symm hj)).mpr ha⟩
      rcases sub a z with z | z
      · exact na z
      · rw [z, hp] at hx; cases hx
end
/-! ### data without lists -/
mutual
def lf : D → Bool
  | .list _ => false
  | .dict [] => true
  | .dict (_ :: _) => false
  | .tuple ds => lfL ds
  | .none | .bool _ | .int _ | .str _ => true
def lfL : List D → Bool
  | [] => true
  | d :: ds => lf d && lfL ds
end
mutual
theorem Rp.lf {K : PySem.W.Frag} {tau : Option Addr} {T T' : Addr → Prop} {H : Hp} (h : ∀ a xs, H a = some (.tup xs) → ¬ T a → ¬ T' a) : ∀ {d : D} {v : V}, Rp K tau T H v d → Pm.lf d = true → Rp K tau T' H v d
  | _, _, .non, _ => .non
  | _, _, .bl b, _ => .bl b
  | _, _, .int i, _ => .int i
  | _, _, .str x l, _ => .str x l
  | _, _, .lst _ _ _ _, c => by simp [Pm.lf] at c
  | _, _, .tup h1 n l r, c => .tup h1 (h _ _ h1 n) l (RpL.lf h r (by rw [Pm.lf] at c; exact c))
  | _, _, .town e, _ => .town e
  | _, _, .scr _ _, c => by simp [Pm.lf] at c
theorem RpL.lf {K : PySem.W.Frag} {tau : Option Addr} {T T' : Addr → Prop} {H : Hp} (h : ∀ a xs, H a = some (.tup xs) → ¬ T a → ¬ T' a) : ∀ {ds : List D} {vs : List V}, RpL K tau T H vs ds → lfL ds = true → RpL K tau T' H vs ds
  | _, _, .nil, _ => .nil
  | _, _, .cons h1 r, c => by
    rw [lfL, Bool.and_eq_true] at c
    exact .cons (Rp.lf h h1 c.1) (RpL.lf h r c.2)
end


/-! ### statements -/
inductive Fl where
  | nx (S : Es) | bk (S : Es) | ct (S : Es)
  | rt (d : D) | rf (ds : List D)
  | ex (c : Str)
abbrev FS := Es → Nat → Option (Fl × Nat)
/-- what stands still -/
def FzK (Fz H : Hp) : Prop := ∀ a x, Fz a = some x → H a = some x
def After (K : PySem.W.Frag) (mg : Str → Option Value) (W : WX) (Fz : Hp) (tau : Option Addr) (T0 : Addr → Prop) (n' : Nat) (Dn : Ends) : Fl → Prop
  | .nx S' => ∀ σ' H' o', RS K Fz tau T0 S' n' σ' H' o' → Dn.nx σ' H'
  | .bk S' => ∀ σ' H' o', RS K Fz tau T0 S' n' σ' H' o' → Dn.bk σ' H'
  | .ct S' => ∀ σ' H' o', RS K Fz tau T0 S' n' σ' H' o' → Dn.ct σ' H'
  | .rt d => ∀ v H', FzK Fz H' → Town tau n' H' → Rp K tau T0 H' v d → Dn.rt v H'
  | .rf ds => ∀ p xs H', FzK Fz H' → Town tau n' H' → Fz p = none → tau ≠ some p → ¬ T0 p → H' p = some (.lst xs) → ds.length ≤ sizeLine → RpL K tau (fun a => T0 a ∨ a = p) H' xs ds → Dn.rt (.ref p) H'
  | .ex c => ∀ C σ' H', mg c = some (.ref C) → FzK Fz H' → Town tau n' H' → W (.ref C) none σ' H'
def tS (K : PySem.W.Frag) (mg : Str → Option Value) (W : WX) (f : FS) : TS := fun Dn σ H => ∃ (Fz : Hp) (tau : Option Addr) (T0 : Addr → Prop) (S : Es) (n : Nat) (fl : Fl) (n' : Nat),
  (∃ o, RS K Fz tau T0 S n σ H o) ∧ f S n = some (fl, n') ∧ After K mg W Fz tau T0 n' Dn fl
abbrev MS (X : Cx) (W : WX) (st : Stmt) (f : FS) : Prop := PS X st (tS X.K X.mg W f)
abbrev MSs (X : Cx) (W : WX) (st : List Stmt) (f : FS) : Prop := PSs X st (tS X.K X.mg W f)
section
variable {X : Cx} {W : WX} {st : Stmt} {rest body orelse : List Stmt} {e c : Expr} {pos : Pos} {f g : FS}
theorem ps_imp {t t' : TS} (h : PS X st t) (i : ∀ Dn σ H, t' Dn σ H → t Dn σ H) : PS X st t' := ⟨fun pins s σ H Dn I hw => h.run pins s σ H Dn I (i _ _ _ hw)⟩
theorem pss_imp {t t' : TS} (h : PSs X body t) (i : ∀ Dn σ H, t' Dn σ H → t Dn σ H) : PSs X body t' := ⟨fun pins s σ H Dn I hw => h.run pins s σ H Dn I (i _ _ _ hw)⟩
theorem FzK.of_rs {K : PySem.W.Frag} {Fz : Hp} {tau : Option Addr} {T0 : Addr → Prop} {S : Es} {n : Nat} {σ : L2.St} {H : Hp} {o : Addr → Option Nat} (R : RS K Fz tau T0 S n σ H o) : FzK Fz H := fun a x h => (R.fz a x h).1
def sSkip : FS := fun S n => some (.nx S, n)
def sSeq (f g : FS) : FS := fun S n => match f S n with
  | some (.nx S', n1) => g S' n1
  | r => r
theorem mss_nil : MSs X W [] sSkip := by
  refine pss_imp pss_nil fun Dn σ H q => ?_
  obtain ⟨Fz, tau, T0, S, n, fl, n', ⟨o, R⟩, e, a⟩ := q
  cases e
  exact a σ H o R
theorem mss_cons (h1 : MS X W st f) (h2 : MSs X W rest g) : MSs X W (st :: rest) (sSeq f g) := by
  refine pss_imp (pss_cons h1 h2) fun Dn σ H q => ?_
  obtain ⟨Fz, tau, T0, S, n, fl, n', R, e, a⟩ := q
  unfold sSeq at e
  split at e
  · rename_i S1 n1 h3
    exact ⟨Fz, tau, T0, S, n, .nx S1, n1, R, h3, fun σ' H' o' R' => ⟨Fz, tau, T0, S1, n1, fl, n', ⟨o', R'⟩, e, a⟩⟩
  · rename_i hn
    refine ⟨Fz, tau, T0, S, n, fl, n', R, e, ?_⟩
    cases fl with
    | nx S' => exact absurd e (hn S' n')
    | _ => exact a
theorem mss_one (h1 : MS X W st f) : MSs X W [st] f := pss_one h1
theorem ms_pass : MS X W (.Pass pos) sSkip := by
  refine ps_imp ps_pass fun Dn σ H q => ?_
  obtain ⟨Fz, tau, T0, S, n, fl, n', ⟨o, R⟩, e, a⟩ := q
  cases e
  exact a σ H o R
def sBreak : FS := fun S n => some (.bk S, n)
def sCont : FS := fun S n => some (.ct S, n)
theorem ms_break : MS X W (.Break pos) sBreak := by
  refine ps_imp ps_break fun Dn σ H q => ?_
  obtain ⟨Fz, tau, T0, S, n, fl, n', ⟨o, R⟩, e, a⟩ := q
  cases e
  exact a σ H o R
theorem ms_cont : MS X W (.Continue pos) sCont := by
  refine ps_imp ps_continue fun Dn σ H q => ?_
  obtain ⟨Fz, tau, T0, S, n, fl, n', ⟨o, R⟩, e, a⟩ := q
  cases e
  exact a σ H o R
/-! return -/
def sRet (f : FE) : FS := fun S n => match f (frzE S) n with
  | some (d, n1) => some (.rt d, n1)
  | none => none
theorem FzK.keep {K : PySem.W.Frag} {Fz : Hp} {tau : Option Addr} {T0 : Addr → Prop} {S : Es} {n : Nat} {σ : L2.St} {H H' : Hp} {o : Addr → Option Nat} (R : RS K Fz tau T0 S n σ H o) (k : Keep tau H H') : FzK Fz H' := fun a x h => k a x (R.fz a x h).2.2 (R.fz a x h).1
theorem ms_ret {fe : FE} (he : ME X e fe) : MS X W (.Return (some e) pos) (sRet fe) := by
  refine ps_imp (ps_ret he) fun Dn σ H q => ?_
  obtain ⟨Fz, tau, T0, S, n, fl, n', ⟨o, R⟩, e, a⟩ := q
  unfold sRet at e
  split at e
  · rename_i d n1 h1
    cases e
    exact tM_run R.frz R.town h1 fun v H' k _ t r => a v H' (FzK.keep R k) t r
  · cases e
def sRetF (f : Fe (List D)) : FS := fun S n => match f (frzE S) n with
  | some (ds, n1) => some (.rf ds, n1)
  | none => none
theorem ms_retF {fe : Fe (List D)} (he : MF X e fe) : MS X W (.Return (some e) pos) (sRetF fe) := by
  refine ps_imp (ps_ret he) fun Dn σ H q => ?_
  obtain ⟨Fz, tau, T0, S, n, fl, n', ⟨o, R⟩, e, a⟩ := q
  unfold sRetF at e
  split at e
  · rename_i ds n1 h1
    cases e
    refine ⟨tau, T0, frzE S, n, ds, _, R.frz, R.town, h1, fun p xs H' k t hp hp' l r => a p xs H' (FzK.keep R k) t ?_ ?_ (R.cok0.notIn hp) hp' l r⟩
    · cases q : Fz p with
      | none => rfl
      | some x => rw [(R.fz p x q).1] at hp; cases hp
    · exact fun z => by rw [R.town p z] at hp; cases hp
  · cases e
/-- return of an own list -/
def sRetO (i : Nat) : FS := fun S n => match S[i]? with
  | some (some (.own ds)) => some (.rf ds, n)
  | _ => none
theorem ms_retO {i : Nat} (he : PE X e (tVar i)) : MS X W (.Return (some e) pos) (sRetO i) := by
  refine ps_imp (ps_ret he) fun Dn σ H q => ?_
  obtain ⟨Fz, tau, T0, S, n, fl, n', ⟨o, R⟩, e, a⟩ := q
  unfold sRetO at e
  split at e
  · rename_i ds h1
    cases e
    obtain ⟨v, h2, p, xs, rfl, h3, h4, l, r⟩ := R.slot i _ h1
    refine ⟨_, h2, a p xs H (FzK.of_rs R) R.town ?_ ?_ (R.own0 h3) h4 l (r.less fun b z => ?_)⟩
    · cases q : Fz p with
      | none => rfl
      | some x => rw [(R.fz p x q).2.1] at h3; cases h3
    · exact fun z => by rw [(R.ta p z).2] at h3; cases h3
    · rcases z with z | z
      · exact .inl z
      · exact .inr ⟨i, by rw [z]; exact h3⟩
  · cases e
def sRetN : FS := fun S n => some (.rt .none, n)
theorem ms_retN : MS X W (.Return none pos) sRetN := by
  refine ps_imp ps_retN fun Dn σ H q => ?_
  obtain ⟨Fz, tau, T0, S, n, fl, n', ⟨o, R⟩, e, a⟩ := q
  cases e
  exact a _ H (FzK.of_rs R) R.town .non
/-! if -/
def sIf (c : Fe Bool) (f g : FS) : FS := fun S n => match c (frzE S) n with
  | some (true, n1) => f S n1
  | some (false, n1) => g S n1
  | none => none
theorem ms_if {fc : Fe Bool} (hc : MT X c fc) (ha : MSs X W body f) (hb : MSs X W orelse g) : MS X W (.If c body orelse pos) (sIf fc f g) := by
  refine ps_imp (ps_if hc ha hb) fun Dn σ H q => ?_
  obtain ⟨Fz, tau, T0, S, n, fl, n', ⟨o, R⟩, e, a⟩ := q
  unfold sIf at e
  split at e
  · rename_i n1 h1
    refine tMT_run R.frz R.town h1 fun H' k _ t => ?_
    rw [if_pos rfl]
    exact ⟨Fz, tau, T0, S, n1, fl, n', ⟨o, R.keep k t⟩, e, a⟩
  · rename_i n1 h1
    refine tMT_run R.frz R.town h1 fun H' k _ t => ?_
    rw [if_neg Bool.false_ne_true]
    exact ⟨Fz, tau, T0, S, n1, fl, n', ⟨o, R.keep k t⟩, e, a⟩
  · cases e
/-! x = e -/
/-- data without lists -/
def sSet (i : Nat) (f : FE) : FS := fun S n => match f (frzE S) n with
  | some (d, n1) => if lf d then some (.nx (S.set i (some (.val d))), n1) else none
  | none => none
theorem RS.ntup {K : PySem.W.Frag} {Fz : Hp} {tau : Option Addr} {T0 : Addr → Prop} {S : Es} {n : Nat} {σ : L2.St} {H : Hp} {o : Addr → Option Nat} (R : RS K Fz tau T0 S n σ H o) (a : Addr) (xs : List V) (ha : H a = some (.tup xs)) (na : ¬ T0 a) : ¬ tOf T0 o a := fun z => by
  rcases z with z | ⟨j, hj⟩
  · exact na z
  · obtain ⟨x, hx, hn⟩ := R.own a j hj
    rw [ha] at hx
    cases hx
    exact hn
theorem RS.noT {K : PySem.W.Frag} {Fz : Hp} {tau : Option Addr} {T0 : Addr → Prop} {S : Es} {n : Nat} {σ : L2.St} {H : Hp} {o : Addr → Option Nat} (R : RS K Fz tau T0 S n σ H o) {d : D} {v : V} (r : Rp K tau T0 H v d) (h : lf d = true) : Rp K tau (tOf T0 o) H v d :=
  Rp.lf R.ntup r h
theorem RS.noTL {K : PySem.W.Frag} {Fz : Hp} {tau : Option Addr} {T0 : Addr → Prop} {S : Es} {n : Nat} {σ : L2.St} {H : Hp} {o : Addr → Option Nat} (R : RS K Fz tau T0 S n σ H o) {d : List D} {v : List V} (r : RpL K tau T0 H v d) (h : lfL d = true) : RpL K tau (tOf T0 o) H v d :=
  RpL.lf R.ntup r h
theorem ms_asg {i : Nat} {te : TE} {f : FE} (h : PS X st (tAsg te (gName i))) (hf : te = tM X.K f) : MS X W st (sSet i f) := by
  subst hf
  refine ps_imp h fun Dn σ H q => ?_
  obtain ⟨Fz, tau, T0, S, n, fl, n', ⟨o, R⟩, e, a⟩ := q
  unfold sSet at e
  split at e
  · rename_i d n1 h1
    split at e
    · rename_i hl
      cases e
      refine tM_run R.frz R.town h1 fun v H' k _ t r => ?_
      have R' := R.keep k t
      exact a _ _ _ (R'.setVal (i := i) (R'.noT r hl))
    · cases e
  · cases e
/-- any data, without one's own lists -/
def sSetH (i : Nat) (f : FE) : FS := fun S n => match f (hidE S) n with
  | some (d, n1) => some (.nx (S.set i (some (.val d))), n1)
  | none => none
theorem ms_asgH {i : Nat} {te : TE} {f : FE} (h : PS X st (tAsg te (gName i))) (hf : te = tM X.K f) : MS X W st (sSetH i f) := by
  subst hf
  refine ps_imp h fun Dn σ H q => ?_
  obtain ⟨Fz, tau, T0, S, n, fl, n', ⟨o, R⟩, e, a⟩ := q
  unfold sSetH at e
  split at e
  · rename_i d n1 h1
    cases e
    refine tM_run R.hid R.town h1 fun v H' k _ t r => ?_
    have R' := R.keep k t
    exact a _ _ _ (R'.setVal (i := i) r)
  · cases e
/-- a new list of data without lists, one's own from now on -/
def sOwn (i : Nat) (f : Fe (List D)) : FS := fun S n => match f (frzE S) n with
  | some (ds, n1) => if lfL ds then some (.nx (S.set i (some (.own ds))), n1) else none
  | none => none
theorem ms_own {i : Nat} {te : TE} {f : Fe (List D)} (h : PS X st (tAsg te (gName i))) (hf : te = tMF X.K f) : MS X W st (sOwn i f) := by
  subst hf
  refine ps_imp h fun Dn σ H q => ?_
  obtain ⟨Fz, tau, T0, S, n, fl, n', ⟨o, R⟩, e, a⟩ := q
  unfold sOwn at e
  split at e
  · rename_i ds n1 h1
    split at e
    · rename_i hl
      cases e
      refine ⟨tau, T0, frzE S, n, ds, _, R.frz, R.town, h1, fun p xs H' k t hp hp' l r => ?_⟩
      refine a _ _ _ (R.setOwn (i := i) k t hp hp' l (RpL.lf (T := fun b => T0 b ∨ b = p) (fun b ys hb nb z => ?_) r hl))
      rcases z with z | z
      · exact (R.keep k t).ntup b ys hb (fun q => nb (.inl q)) z
      · exact nb (.inr z)
    · cases e
  · cases e
/-- a new list, one's own lists not read -/
def sOwnH (i : Nat) (f : Fe (List D)) : FS := fun S n => match f (hidE S) n with
  | some (ds, n1) => some (.nx (S.set i (some (.own ds))), n1)
  | none => none
theorem ms_ownH {i : Nat} {te : TE} {f : Fe (List D)} (h : PS X st (tAsg te (gName i))) (hf : te = tMF X.K f) : MS X W st (sOwnH i f) := by
  subst hf
  refine ps_imp h fun Dn σ H q => ?_
  obtain ⟨Fz, tau, T0, S, n, fl, n', ⟨o, R⟩, e, a⟩ := q
  unfold sOwnH at e
  split at e
  · rename_i ds n1 h1
    cases e
    refine ⟨tau, _, hidE S, n, ds, _, R.hid, R.town, h1, fun p xs H' k t hp hp' l r => ?_⟩
    exact a _ _ _ (R.setOwn (i := i) k t hp hp' l r)
  · cases e
/-- own lists that are not changed any more -/
def frzS (i : Nat) (S : Es) : Es := match S[i]? with
  | some (some sv) => S.set i (some (.val sv.d))
  | _ => S
def sFrz (i : Nat) (f : FS) : FS := fun S n => f (frzS i S) n
theorem RS.freeze {K : PySem.W.Frag} {Fz : Hp} {tau : Option Addr} {T0 : Addr → Prop} {S : Es} {n : Nat} {σ : L2.St} {H : Hp} {o : Addr → Option Nat} (i : Nat) (R : RS K Fz tau T0 S n σ H o) : ∃ o', RS K Fz tau T0 (frzS i S) n σ H o' := by
  unfold frzS
  split
  · rename_i sv h
    obtain ⟨v, h1, h2⟩ := R.slot i sv h
    have hσ : σ.set i (some v) = σ := by
      apply List.ext_getElem?
      intro j
      by_cases hj : i = j
      · subst hj
        have hl : i < σ.length := by
          cases Nat.lt_or_ge i σ.length with
          | inl z => exact z
          | inr z => rw [List.getElem?_eq_none z] at h1; cases h1
        rw [List.getElem?_set_self hl, h1]
      · rw [List.getElem?_set_ne hj]
    refine ⟨drop1 o i, ?_⟩
    have hsub : ∀ a, tOf T0 (drop1 o i) a → tOf T0 o a := fun a z => z.imp_right fun ⟨j, h⟩ => ⟨j, drop1_sub h⟩
    have hni : ∀ a, o a = some i → ¬ tOf T0 (drop1 o i) a := fun a ha z => by
      rcases z with z | ⟨j, z⟩
      · exact R.own0 ha z
      · have z1 := drop1_sub z
        rw [ha] at z1
        cases z1
        exact drop1_eq z
    rw [← hσ]
    refine R.upd (fun a x h _ => h) (fun a j hj => drop1_ne hj) (fun a h => absurd h drop1_eq) (fun a h => absurd h drop1_eq) ?_
    show Rp K tau (tOf T0 (drop1 o i)) H v sv.d
    cases sv with
    | val d => exact Rp.less hsub h2
    | own ds =>
      obtain ⟨a, xs, rfl, q1, q2, l, r⟩ := h2
      exact .lst q2 (hni a q1) l (r.less hsub)
    | own2 dss =>
      obtain ⟨a, bs, rfl, q1, hn, q2, q3, l, r⟩ := h2
      exact .lst q3 (hni a q1) (by rw [List.length_map]; exact l) (rows_rp r (fun b hb => hni b (q2 b hb)) hsub)
  · exact ⟨o, R⟩
theorem ms_frz {i : Nat} (h : MS X W st f) : MS X W st (sFrz i f) := by
  refine ps_imp h fun Dn σ H q => ?_
  obtain ⟨Fz, tau, T0, S, n, fl, n', ⟨o, R⟩, e, a⟩ := q
  exact ⟨Fz, tau, T0, frzS i S, n, fl, n', R.freeze i, e, a⟩
/-! x.append(e), x.extend(e), y = x.pop() of an own list x -/
def sApp (i : Nat) (f : FE) : FS := fun S n => match S[i]? with
  | some (some (.own ds)) => (match f (frzE S) n with
    | some (d, n1) => if lf d && decide (ds.length < lim) then some (.nx (S.set i (some (.own (ds ++ [d])))), n1) else none
    | none => none)
  | _ => none
def sAppH (i : Nat) (f : FE) : FS := fun S n => match S[i]? with
  | some (some (.own ds)) => (match f (hidE S) n with
    | some (d, n1) => if decide (ds.length < lim) then some (.nx (S.set i (some (.own (ds ++ [d])))), n1) else none
    | none => none)
  | _ => none
/-- the cell of slot i's list is told anew -/
theorem RS.setCell {K : PySem.W.Frag} {Fz : Hp} {tau : Option Addr} {T0 : Addr → Prop} {S : Es} {n : Nat} {σ : L2.St} {H : Hp} {o : Addr → Option Nat} {i : Nat} {a : Addr} {xs : List V} {ds : List D} (R : RS K Fz tau T0 S n σ H o) (hσ : σ[i]? = some (some (.ref a))) (ha : o a = some i) (hone : ∀ b, o b = some i → b = a ∨ ∃ x, H b = some x ∧ noTup x)
    (r : RpL K tau (tOf T0 o) H xs ds) (l : ds.length ≤ sizeLine) : RS K Fz tau T0 (S.set i (some (.own ds))) n σ (L2.upd H a (.lst xs)) o := by
  have hs : σ.set i (some (.ref a)) = σ := by
    apply List.ext_getElem?
    intro j
    by_cases hj : i = j
    · subst hj
      have hl : i < σ.length := by
        cases Nat.lt_or_ge i σ.length with
        | inl z => exact z
        | inr z => rw [List.getElem?_eq_none z] at hσ; cases hσ
      rw [List.getElem?_set_self hl, hσ]
    · rw [List.getElem?_set_ne hj]
  rw [← hs]
  refine R.upd (fun b x hb hn => ?_) (fun b j _ => Iff.rfl) (fun b h => .inl h) (fun b h => ?_) ⟨a, xs, rfl, ha, upd_same, l, r.move fun b x nb hb => ⟨?_, nb⟩⟩
  · rw [upd_ne (fun z => hn (by rw [z]; exact ha))]
    exact hb
  · by_cases hb : b = a
    · rw [hb]; exact ⟨_, upd_same, trivial⟩
    · rw [upd_ne hb]
      rcases hone b h with z | z
      · exact absurd z hb
      · exact z
  · rw [upd_ne (fun z => nb (.inr ⟨i, by rw [z]; exact ha⟩))]
    exact hb
theorem ms_app {i : Nat} {fe : FE} (h : PS X st (tDrop (tBM X.K "list" rAppend (tVar i) (tCons (tM X.K fe) tNil)))) : MS X W st (sApp i fe) := by
  refine ps_imp h fun Dn σ H q => ?_
  obtain ⟨Fz, tau, T0, S, n, fl, n', ⟨o, R⟩, e, a⟩ := q
  unfold sApp at e
  split at e
  · rename_i ds hS
    split at e
    · rename_i d n1 h1
      split at e
      · rename_i hc
        cases e
        rw [Bool.and_eq_true] at hc
        have hl := of_decide_eq_true hc.2
        rw [lim_eq] at hl
        obtain ⟨v, hσ, p, xs, rfl, ho, hH, l, r⟩ := R.slot i _ hS
        refine ⟨_, hσ, .inl ⟨rfl, _, SqL.of hH⟩, ?_⟩
        refine tM_run R.frz R.town h1 fun u H' k _ t ru => ?_
        have R' := R.keep k t
        obtain ⟨v2, hσ2, p2, xs2, e2, ho2, hH2, l2, r2⟩ := R'.slot i _ hS
        rw [hσ] at hσ2
        cases hσ2
        cases e2
        refine ⟨p, xs2, u, rfl, rfl, hH2, by rw [r2.length]; exact hl, ?_⟩
        refine a _ _ o (R'.setCell hσ ho (fun b hb => .inr (R'.own b i hb)) (r2.append (.cons (R'.noT ru hc.1) .nil)) ?_)
        rw [List.length_append]; simp; omega
      · cases e
    · cases e
  · cases e
theorem ms_appH {i : Nat} {fe : FE} (h : PS X st (tDrop (tBM X.K "list" rAppend (tVar i) (tCons (tM X.K fe) tNil)))) : MS X W st (sAppH i fe) := by
  refine ps_imp h fun Dn σ H q => ?_
  obtain ⟨Fz, tau, T0, S, n, fl, n', ⟨o, R⟩, e, a⟩ := q
  unfold sAppH at e
  split at e
  · rename_i ds hS
    split at e
    · rename_i d n1 h1
      split at e
      · rename_i hc
        cases e
        have hl := of_decide_eq_true hc
        rw [lim_eq] at hl
        obtain ⟨v, hσ, p, xs, rfl, ho, hH, l, r⟩ := R.slot i _ hS
        refine ⟨_, hσ, .inl ⟨rfl, _, SqL.of hH⟩, ?_⟩
        refine tM_run R.hid R.town h1 fun u H' k _ t ru => ?_
        have R' := R.keep k t
        obtain ⟨v2, hσ2, p2, xs2, e2, ho2, hH2, l2, r2⟩ := R'.slot i _ hS
        rw [hσ] at hσ2
        cases hσ2
        cases e2
        refine ⟨p, xs2, u, rfl, rfl, hH2, by rw [r2.length]; exact hl, ?_⟩
        refine a _ _ o (R'.setCell hσ ho (fun b hb => .inr (R'.own b i hb)) (r2.append (.cons ru .nil)) ?_)
        rw [List.length_append]; simp; omega
      · cases e
    · cases e
  · cases e
def sExt (i : Nat) (f : FE) : FS := fun S n => match S[i]? with
  | some (some (.own ds)) => (match f (frzE S) n with
    | some (.list es, n1) => if lfL es && decide (ds.length + es.length ≤ lim) then some (.nx (S.set i (some (.own (ds ++ es)))), n1) else none
    | _ => none)
  | _ => none
def sExtH (i : Nat) (f : FE) : FS := fun S n => match S[i]? with
  | some (some (.own ds)) => (match f (hidE S) n with
    | some (.list es, n1) => if decide (ds.length + es.length ≤ lim) then some (.nx (S.set i (some (.own (ds ++ es)))), n1) else none
    | _ => none)
  | _ => none
theorem ms_ext {i : Nat} {fe : FE} (h : PS X st (tDrop (tBM X.K "list" rExtend (tVar i) (tCons (tM X.K fe) tNil)))) : MS X W st (sExt i fe) := by
  refine ps_imp h fun Dn σ H q => ?_
  obtain ⟨Fz, tau, T0, S, n, fl, n', ⟨o, R⟩, e, a⟩ := q
  unfold sExt at e
  split at e
  · rename_i ds hS
    split at e
    · rename_i es n1 h1
      split at e
      · rename_i hc
        cases e
        rw [Bool.and_eq_true] at hc
        have hl := of_decide_eq_true hc.2
        rw [lim_eq] at hl
        obtain ⟨v, hσ, p, xs, rfl, ho, hH, l, r⟩ := R.slot i _ hS
        refine ⟨_, hσ, .inl ⟨rfl, _, SqL.of hH⟩, ?_⟩
        refine tM_run R.frz R.town h1 fun u H' k _ t ru => ?_
        have R' := R.keep k t
        obtain ⟨v2, hσ2, p2, xs2, e2, ho2, hH2, l2, r2⟩ := R'.slot i _ hS
        rw [hσ] at hσ2
        cases hσ2
        cases e2
        cases ru with
        | lst g1 m1 l1 q1 =>
          refine ⟨p, _, xs2, _, rfl, rfl, hH2, g1, by rw [r2.length, q1.length]; exact hl, ?_⟩
          refine a _ _ o (R'.setCell hσ ho (fun b hb => .inr (R'.own b i hb)) (r2.append (R'.noTL q1 hc.1)) ?_)
          rw [List.length_append]; exact hl
      · cases e
    · cases e
  · cases e
theorem ms_extH {i : Nat} {fe : FE} (h : PS X st (tDrop (tBM X.K "list" rExtend (tVar i) (tCons (tM X.K fe) tNil)))) : MS X W st (sExtH i fe) := by
  refine ps_imp h fun Dn σ H q => ?_
  obtain ⟨Fz, tau, T0, S, n, fl, n', ⟨o, R⟩, e, a⟩ := q
  unfold sExtH at e
  split at e
  · rename_i ds hS
    split at e
    · rename_i es n1 h1
      split at e
      · rename_i hc
        cases e
        have hl := of_decide_eq_true hc
        rw [lim_eq] at hl
        obtain ⟨v, hσ, p, xs, rfl, ho, hH, l, r⟩ := R.slot i _ hS
        refine ⟨_, hσ, .inl ⟨rfl, _, SqL.of hH⟩, ?_⟩
        refine tM_run R.hid R.town h1 fun u H' k _ t ru => ?_
        have R' := R.keep k t
        obtain ⟨v2, hσ2, p2, xs2, e2, ho2, hH2, l2, r2⟩ := R'.slot i _ hS
        rw [hσ] at hσ2
        cases hσ2
        cases e2
        cases ru with
        | lst g1 m1 l1 q1 =>
          refine ⟨p, _, xs2, _, rfl, rfl, hH2, g1, by rw [r2.length, q1.length]; exact hl, ?_⟩
          refine a _ _ o (R'.setCell hσ ho (fun b hb => .inr (R'.own b i hb)) (r2.append q1) ?_)
          rw [List.length_append]; exact hl
      · cases e
    · cases e
  · cases e
/-- an expression whose value is not kept: a call that may raise -/
def sCallX (m : Fn) (fs : Fe (List D)) : FS := fun S n => match fs (frzE S) n with
  | some (ds, n1) => (match m ds n1 with
    | some (.ok _, n2) => some (.nx S, n2)
    | some (.ex c, n2) => some (.ex c, n2)
    | none => none)
  | none => none
theorem ms_callX {ar : Nat} {fr : Bool} {m : Fn} {fs : Fe (List D)} (hl : ∀ ds n, ds.length ≠ ar → m ds n = none) (h : PS X st (tDrop (tCallS (spX X.K X.mg ar fr m) (WE W) (tMA X.K fs)))) : MS X W st (sCallX m fs) := by
  refine ps_imp h fun Dn σ H q => ?_
  obtain ⟨Fz, tau, T0, S, n, fl, n', ⟨o, R⟩, e, a⟩ := q
  unfold sCallX at e
  split at e
  · rename_i ds n1 h1
    refine tMA_run R.frz R.town h1 fun vs H1 k1 R1 t1 r1 => ?_
    split at e
    · rename_i d n2 h2
      cases e
      refine ⟨tau, T0, ds, n1, _, _, R1.ok, r1, m_len hl h2, t1, h2, fun v H2 k2 t2 r2 _ => ?_⟩
      exact a σ H2 o (R.keep (k1.trans k2) t2)
    · rename_i c n2 h2
      cases e
      refine ⟨tau, T0, ds, n1, _, _, R1.ok, r1, m_len hl h2, t1, h2, fun C H2 hC k2 t2 => ?_⟩
      exact a C σ H2 hC (FzK.keep R (k1.trans k2)) t2
    · cases e
  · cases e
/-- return f(..), which may raise -/
def sRetX (m : Fn) (fs : Fe (List D)) : FS := fun S n => match fs (frzE S) n with
  | some (ds, n1) => (match m ds n1 with
    | some (.ok d, n2) => some (.rt d, n2)
    | some (.ex c, n2) => some (.ex c, n2)
    | none => none)
  | none => none
theorem ms_retX {ar : Nat} {fr : Bool} {m : Fn} {fs : Fe (List D)} (hl : ∀ ds n, ds.length ≠ ar → m ds n = none) (h : PS X st (tRet (tCallS (spX X.K X.mg ar fr m) (WE W) (tMA X.K fs)))) : MS X W st (sRetX m fs) := by
  refine ps_imp h fun Dn σ H q => ?_
  obtain ⟨Fz, tau, T0, S, n, fl, n', ⟨o, R⟩, e, a⟩ := q
  unfold sRetX at e
  split at e
  · rename_i ds n1 h1
    refine tMA_run R.frz R.town h1 fun vs H1 k1 R1 t1 r1 => ?_
    split at e
    · rename_i d n2 h2
      cases e
      refine ⟨tau, T0, ds, n1, _, _, R1.ok, r1, m_len hl h2, t1, h2, fun v H2 k2 t2 r2 _ => ?_⟩
      exact a v H2 (FzK.keep R (k1.trans k2)) t2 r2
    · rename_i c n2 h2
      cases e
      refine ⟨tau, T0, ds, n1, _, _, R1.ok, r1, m_len hl h2, t1, h2, fun C H2 hC k2 t2 => ?_⟩
      exact a C σ H2 hC (FzK.keep R (k1.trans k2)) t2
    · cases e
  · cases e
/-- raise C('..') -/
def sRaise (c : Str) : FS := fun _ n => some (.ex c, n)
theorem ms_raise {c : Str} {C : Addr} (hC : X.mg c = some (.ref C)) (h : PS X st (fun _ σ H => W (.ref C) none σ H)) : MS X W st (sRaise c) := by
  refine ps_imp h fun Dn σ H q => ?_
  obtain ⟨Fz, tau, T0, S, n, fl, n', ⟨o, R⟩, e, a⟩ := q
  cases e
  exact a C σ H hC (FzK.of_rs R) R.town
end


/-! ### for -/
def setAllV : Es → List Nat → List D → Es
  | S, i :: is, d :: ds => setAllV (S.set i (some (.val d))) is ds
  | S, _, _ => S
def bindS : Tg → D → Es → Option Es
  | .nm i, d, S => some (S.set i (some (.val d)))
  | .tp is, .tuple ds, S => if ds.length = is.length then some (setAllV S is ds) else none
  | .tp _, _, _ => none
section
variable {K : PySem.W.Frag} {Fz : Hp} {tau : Option Addr} {T0 : Addr → Prop} {n : Nat} {H : Hp}
theorem tOf_drop {o : Addr → Option Nat} {i : Nat} : ∀ a, tOf T0 (drop1 o i) a → tOf T0 o a := fun a z => z.imp_right fun ⟨j, h⟩ => ⟨j, drop1_sub h⟩
theorem RS.setAllV : ∀ (is : List Nat) {S : Es} {σ : L2.St} {o : Addr → Option Nat} {vs : List V} {ds : List D}, RS K Fz tau T0 S n σ H o → RpL K tau (tOf T0 o) H vs ds → ∃ o', RS K Fz tau T0 (Pm.setAllV S is ds) n (Pm.setAll σ is vs) H o'
  | [], _, _, o, _, _, R, _ => ⟨o, R⟩
  | _ :: _, _, _, o, _, _, R, .nil => ⟨o, R⟩
  | i :: is, _, _, _, _, _, R, .cons h t => RS.setAllV is (R.setVal (i := i) h) (t.less tOf_drop)
theorem gOf_runS {S S' : Es} {σ : L2.St} {o : Addr → Option Nat} {t : Tg} {v : V} {d : D} {Q : L2.St → Hp → Prop} (R : RS K Fz tau T0 S n σ H o) (r : Rp K tau (tOf T0 o) H v d) (e : bindS t d S = some S')
    (h : ∀ σ' o', RS K Fz tau T0 S' n σ' H o' → Q σ' H) : gOf K t v σ H Q := by
  cases t with
  | nm i =>
    cases e
    exact h _ _ (R.setVal (i := i) r)
  | tp is =>
    cases r with
    | @tup a xs ds h1 n1 l1 q1 =>
      have e' : (if ds.length = is.length then some (Pm.setAllV S is ds) else none) = some S' := e
      split at e'
      · rename_i hl
        cases e'
        obtain ⟨o', R'⟩ := R.setAllV is q1
        exact ⟨_, _, rfl, SqT.of h1, by rw [q1.length, hl], gsOf_run is (by rw [q1.length, hl]) (h _ _ R')⟩
      · cases e'
    | _ => simp [bindS] at e
end
def forGo (t : Tg) (fb : FS) : List D → Es → Nat → Option (Fl × Nat)
  | [], S, n => some (.nx S, n)
  | x :: r, S, n => match bindS t x S with
    | some S' => (match fb S' n with
      | some (.nx S2, n2) => forGo t fb r S2 n2
      | some (.ct S2, n2) => forGo t fb r S2 n2
      | some (.bk S2, n2) => some (.nx S2, n2)
      | r => r)
    | none => none
def sFor (fi : Fe (List D)) (t : Tg) (fb : FS) : FS := fun S n => match fi (hidE S) n with
  | some (items, n1) => forGo t fb items S n1
  | none => none
/-- all that is not one's own stands still from now on -/
def reFz (o : Addr → Option Nat) (tau : Option Addr) (H : Hp) : Hp := fun a => if (o a).isSome = true ∨ tau = some a then none else H a
section
variable {K : PySem.W.Frag} {Fz : Hp} {tau : Option Addr} {T0 : Addr → Prop} {S : Es} {n : Nat} {σ : L2.St} {H : Hp} {o : Addr → Option Nat}
theorem reFz_some {a : Addr} {x : HO} (h : reFz o tau H a = some x) : H a = some x ∧ o a = none ∧ tau ≠ some a := by
  unfold reFz at h
  split at h
  · cases h
  · rename_i hn
    refine ⟨h, ?_, fun z => hn (.inr z)⟩
    cases q : o a with
    | none => rfl
    | some j => exact absurd (.inl (by rw [q]; rfl)) hn
theorem reFz_of {a : Addr} {x : HO} (h : H a = some x) (h1 : o a = none) (h2 : tau ≠ some a) : reFz o tau H a = some x := by
  unfold reFz
  rw [if_neg, h]
  rintro (z | z)
  · rw [h1] at z; cases z
  · exact h2 z
theorem RS.re (R : RS K Fz tau T0 S n σ H o) : RS K (reFz o tau H) tau T0 S n σ H o := by
  refine ⟨fun a x h => reFz_some h, R.ta, fun a h => ?_, R.own, R.town, R.len, R.slot⟩
  rcases R.tin a h with z | z
  · cases q : Fz a with
    | none => exact absurd q z
    | some x =>
      obtain ⟨h1, h2, h3⟩ := R.fz a x q
      exact .inl (by rw [reFz_of h1 h2 h3]; exact fun y => nomatch y)
  · exact .inr z
/-- back to what stood still before -/
theorem RS.back {Fz' : Hp} (R : RS K Fz' tau T0 S n σ H o) (h : ∀ a x, Fz a = some x → Fz' a = some x) (ht : ∀ a, T0 a → Fz a ≠ none ∨ tau = some a) : RS K Fz tau T0 S n σ H o :=
  ⟨fun a x e => R.fz a x (h a x e), R.ta, ht, R.own, R.town, R.len, R.slot⟩
theorem After.back {mg : Str → Option Value} {W : WX} {Fz' : Hp} {n' : Nat} {Dn : Ends} {fl : Fl} (h : ∀ a x, Fz a = some x → Fz' a = some x) (ht : ∀ a, T0 a → Fz a ≠ none ∨ tau = some a) (a : After K mg W Fz tau T0 n' Dn fl) : After K mg W Fz' tau T0 n' Dn fl := by
  cases fl with
  | nx S' => exact fun σ' H' o' R => a σ' H' o' (R.back h ht)
  | bk S' => exact fun σ' H' o' R => a σ' H' o' (R.back h ht)
  | ct S' => exact fun σ' H' o' R => a σ' H' o' (R.back h ht)
  | rt d => exact fun v H' k t r => a v H' (fun b x e => k b x (h b x e)) t r
  | rf ds => exact fun p xs H' k t hp => a p xs H' (fun b x e => k b x (h b x e)) t (by
      cases q : Fz p with
      | none => rfl
      | some x => rw [h p x q] at hp; cases hp)
  | ex c => exact fun C σ' H' hC k t => a C σ' H' hC (fun b x e => k b x (h b x e)) t
end
section
variable {X : Cx} {W : WX} {st : Stmt} {body : List Stmt} {iter tg c : Expr} {pos : Pos} {fb : FS}
theorem ms_for {fi : Fe (List D)} {t : Tg} (hp : PassesOwn (model X.prog X.w) X.A X.env X.xe) (hc : X.calm = true) (hi : MI X tg iter fi) (hg : MG X tg t) (hb : MSs X W body fb) (hs : ∀ x, foldedSetIterable iter X.env x = pure x := by intro _; rfl) :
    MS X W (.For tg iter body [] pos) (sFor fi t fb) := by
  refine ps_imp (ps_for hp hc hi hg hb hs) fun Dn σ H q => ?_
  obtain ⟨Fz, tau, T0, S, n, fl, n', ⟨o, R⟩, e, af⟩ := q
  unfold sFor at e
  split at e
  · rename_i items n1 h1
    refine ⟨tau, _, hidE S, n, items, n1, R.hid, R.town, h1, fun J H1 k1 t1 wk => ?_⟩
    have R1 : RS X.K Fz tau T0 S n1 σ H1 o := R.keep k1 t1
    have R2 := R1.re
    have sub : ∀ a x, Fz a = some x → reFz o tau H1 a = some x := fun a x h => reFz_of (R1.fz a x h).1 (R1.fz a x h).2.1 (R1.fz a x h).2.2
    refine ⟨fun i m σi Hi => m = items.length - i ∧ i ≤ items.length ∧ ∃ Si ni oi, RS X.K (reFz o tau H1) tau T0 Si ni σi Hi oi ∧ forGo t fb (items.drop i) Si ni = some (fl, n'), ⟨items.length, by simp, Nat.zero_le _, S, n1, o, R2, e⟩, ?_⟩
    rintro i m σi Hi ⟨rfl, hi, Si, ni, oi, Ri, ei⟩
    have mv : ∀ a x, ¬ tOf T0 o a → H1 a = some x → Hi a = some x ∧ ¬ tOf T0 oi a := fun a x na ha => by
      have oa : o a = none := by
        cases q : o a with
        | none => rfl
        | some k => exact absurd (.inr ⟨k, q⟩) na
      have hz := Ri.fz a x (reFz_of ha oa fun z => na (.inl (R.ta a z).1))
      refine ⟨hz.1, fun z => ?_⟩
      rcases z with z | ⟨j, z⟩
      · exact na (.inl z)
      · rw [hz.2.1] at z; cases z
    obtain ⟨go, stp⟩ := wk.run _ Hi mv Ri.cok
    by_cases hlt : i < items.length
    · obtain ⟨g1, g2⟩ := go i hlt
      have hdrop : items.drop i = items[i] :: items.drop (i + 1) := List.drop_eq_getElem_cons hlt
      rw [hdrop] at ei
      unfold forGo at ei
      split at ei
      · rename_i S' hbd
        refine .inr ⟨g1, fun σn Hn => i + 1 ≤ items.length ∧ ∃ Sn nn on, RS X.K (reFz o tau H1) tau T0 Sn nn σn Hn on ∧ forGo t fb (items.drop (i + 1)) Sn nn = some (fl, n'), ?_, ?_⟩
        · rintro σn Hn ⟨q1, q2⟩
          exact ⟨items.length - (i + 1), by omega, rfl, q1, q2⟩
        · intro x H' hy
          obtain ⟨sm, d, hd, rx⟩ := g2 x H' hy
          rw [List.getElem?_eq_getElem hlt] at hd
          cases hd
          refine gOf_runS (Ri.keep (Keep.of_same sm) (Ri.town.of_same sm)) rx hbd fun σ2 o2 R3 => ?_
          split at ei
          · rename_i S2 n2 h2
            exact ⟨_, tau, T0, S', ni, .nx S2, n2, ⟨o2, R3⟩, h2, fun σ' H' o' R' => ⟨hlt, S2, n2, o', R', ei⟩⟩
          · rename_i S2 n2 h2
            exact ⟨_, tau, T0, S', ni, .ct S2, n2, ⟨o2, R3⟩, h2, fun σ' H' o' R' => ⟨hlt, S2, n2, o', R', ei⟩⟩
          · rename_i S2 n2 h2
            cases ei
            exact ⟨_, tau, T0, S', ni, .bk S2, _, ⟨o2, R3⟩, h2, fun σ' H' o' R' => af σ' H' o' (R'.back sub R.tin)⟩
          · rename_i hn1 hn2 hn3
            refine ⟨_, tau, T0, S', ni, fl, n', ⟨o2, R3⟩, ei, ?_⟩
            have af' := After.back sub R.tin af
            cases fl with
            | nx S' => exact absurd ei (hn1 S' n')
            | ct S' => exact absurd ei (hn2 S' n')
            | bk S' => exact absurd ei (hn3 S' n')
            | rt d => exact af'
            | rf ds => exact af'
            | ex c => exact af'
      · cases ei
    · have hie : i = items.length := by omega
      subst hie
      rw [List.drop_length] at ei
      cases ei
      exact .inl ⟨stp, af σi Hi oi (Ri.back sub R.tin)⟩
  · cases e
/-! ### while -/
def whGo (fc : Fe Bool) (fb : FS) : Nat → Es → Nat → Option (Fl × Nat)
  | 0, _, _ => none
  | N + 1, S, n => match fc (frzE S) n with
    | some (true, n1) => (match fb S n1 with
      | some (.nx S2, n2) => whGo fc fb N S2 n2
      | some (.ct S2, n2) => whGo fc fb N S2 n2
      | some (.bk S2, n2) => some (.nx S2, n2)
      | r => r)
    | some (false, n1) => some (.nx S, n1)
    | none => none
/-- at most N turns -/
def sWhile (N : Nat) (fc : Fe Bool) (fb : FS) : FS := whGo fc fb N
theorem ms_while {N : Nat} {fc : Fe Bool} (hp : PassesOwn (model X.prog X.w) X.A X.env X.xe) (hc : MT X c fc) (hb : MSs X W body fb) : MS X W (.While c body [] pos) (sWhile N fc fb) := by
  refine ps_imp (ps_while hp hc hb) fun Dn σ H q => ?_
  obtain ⟨Fz, tau, T0, S, n, fl, n', ⟨o, R⟩, e, af⟩ := q
  refine ⟨fun m σi Hi => ∃ Si ni oi, RS X.K Fz tau T0 Si ni σi Hi oi ∧ whGo fc fb m Si ni = some (fl, n'), ⟨N, S, n, o, R, e⟩, ?_⟩
  rintro m σi Hi ⟨Si, ni, oi, Ri, ei⟩
  cases m with
  | zero => cases ei
  | succ m =>
    unfold whGo at ei
    split at ei
    · rename_i n1 h1
      refine tMT_run Ri.frz Ri.town h1 fun H' k _ t => ?_
      rw [if_pos rfl]
      refine ⟨fun σn Hn => ∃ Sn nn on, RS X.K Fz tau T0 Sn nn σn Hn on ∧ whGo fc fb m Sn nn = some (fl, n'), fun σn Hn hn => ⟨m, Nat.lt_succ_self m, hn⟩, ?_⟩
      have R3 := Ri.keep k t
      split at ei
      · rename_i S2 n2 h2
        exact ⟨_, tau, T0, Si, n1, .nx S2, n2, ⟨oi, R3⟩, h2, fun σ' H' o' R' => ⟨S2, n2, o', R', ei⟩⟩
      · rename_i S2 n2 h2
        exact ⟨_, tau, T0, Si, n1, .ct S2, n2, ⟨oi, R3⟩, h2, fun σ' H' o' R' => ⟨S2, n2, o', R', ei⟩⟩
      · rename_i S2 n2 h2
        cases ei
        exact ⟨_, tau, T0, Si, n1, .bk S2, _, ⟨oi, R3⟩, h2, fun σ' H' o' R' => af σ' H' o' R'⟩
      · rename_i hn1 hn2 hn3
        refine ⟨_, tau, T0, Si, n1, fl, n', ⟨oi, R3⟩, ei, ?_⟩
        cases fl with
        | nx S' => exact absurd ei (hn1 S' n')
        | ct S' => exact absurd ei (hn2 S' n')
        | bk S' => exact absurd ei (hn3 S' n')
        | rt d => exact af
        | rf ds => exact af
        | ex c => exact af
    · rename_i n1 h1
      cases ei
      refine tMT_run Ri.frz Ri.town h1 fun H' k _ t => ?_
      rw [if_neg Bool.false_ne_true]
      exact af σi H' oi (Ri.keep k t)
    · cases ei
end

/-! ### a def -/
def start0 (nl : Nat) (ds : List D) : Es := ds.map (fun d => some (.val d)) ++ List.replicate nl none
def mkF (ar nl : Nat) (f : FS) : Fn := fun ds n => if ds.length = ar then (match f (start0 nl ds) n with
    | some (.rt d, n') => some (.ok d, n')
    | some (.rf es, n') => some (.ok (.list es), n')
    | some (.nx _, n') => some (.ok .none, n')
    | some (.ex c, n') => some (.ex c, n')
    | _ => none) else none
/-- a def that hands back new lists -/
def mkL (ar nl : Nat) (f : FS) : Fn := fun ds n => if ds.length = ar then (match f (start0 nl ds) n with
    | some (.rf es, n') => some (.ok (.list es), n')
    | some (.ex c, n') => some (.ex c, n')
    | _ => none) else none
theorem mkF_len {ar nl : Nat} {f : FS} : ∀ ds n, ds.length ≠ ar → mkF ar nl f ds n = none := fun ds n h => by unfold mkF; rw [if_neg h]
theorem mkL_len {ar nl : Nat} {f : FS} : ∀ ds n, ds.length ≠ ar → mkL ar nl f ds n = none := fun ds n h => by unfold mkL; rw [if_neg h]
section
variable {K : PySem.W.Frag} {tau : Option Addr} {T : Addr → Prop} {H : Hp} {n : Nat}
/-- what the caller must find again -/
def fz0 (tau : Option Addr) (H : Hp) : Hp := fun a => if tau = some a then none else H a
theorem rs_start {N : List Str} {vs : List V} {ds : List D} (c : Cok tau T H) (r : RpL K tau T H vs ds) (t : Town tau n H) (hN : vs.length ≤ N.length) : RS K (fz0 tau H) tau T (start0 (N.length - vs.length) ds) n (start N vs) H (fun _ => none) := by
  refine ⟨fun a x h => ?_, fun a h => ⟨c.tau a h, rfl⟩, fun a h => ?_, fun a j h => (by cases h), t, ?_, fun i sv h => ?_⟩
  · unfold fz0 at h
    split at h
    · cases h
    · exact ⟨h, rfl, by assumption⟩
  · by_cases ht : tau = some a
    · exact .inr ht
    · refine .inl ?_
      unfold fz0
      rw [if_neg ht]
      exact c.tin a h
  · unfold start0 L2.start
    rw [List.length_append, List.length_append, List.length_map, List.length_map, List.length_replicate, List.length_replicate, r.length]
  · unfold start0 at h
    unfold L2.start
    by_cases hi : i < ds.length
    · rw [List.getElem?_append_left (by rw [List.length_map]; exact hi), List.getElem?_map, List.getElem?_eq_getElem hi] at h
      cases h
      obtain ⟨v, hv, rv⟩ := r.get (List.getElem?_eq_getElem hi)
      refine ⟨v, ?_, Rp.less (fun a z => z.elim id fun ⟨_, q⟩ => nomatch q) rv⟩
      rw [List.getElem?_append_left (by rw [List.length_map, r.length]; exact hi), List.getElem?_map, hv]
      rfl
    · rw [List.getElem?_append_right (by rw [List.length_map]; omega), List.getElem?_replicate] at h
      split at h <;> cases h
theorem fz0_keep {H' : Hp} (k : FzK (fz0 tau H) H') : Keep tau H H' := fun a x h e => k a x (by unfold fz0; rw [if_neg h]; exact e)
end
section
variable {P : Program} {w : World} {K : PySem.W.Frag} {mg : Str → Option Value} {base : Heap} {x qual : Str} {params : Arguments} {body : List Stmt} {scope : Scope} {f : Addr} {fd : FuncData} {N ps : List Str} {k ar : Nat} {fb : FS}
/-- the body's mirror is the def's -/
theorem fn_mk (F : FunD K x qual params body scope [] [] f fd) (S : FnScope N ps scope) (ha : ps.length = ar) (hN : ar ≤ N.length)
    (hbody : ∀ (cdv : Value) (A : Around) (outer : List Env) (s : Shared) (H : Hp) (E : XK), Room k (A.deeper (envOfC qual scope s.heap.objs.size f cdv)) →
      MSs (cxOf (L2.CX P w) P w K mg base N qual scope f cdv A outer s H E) (fun cls d _ H => E cls d H) body fb) : FnOk P w K mg base (L2.CX P w) (k + 1) f fd ps (spX K mg ar false (mkF ar (N.length - ar) fb)) := by
  refine F.ok S (fun vs H Q E h => ?_) fun cdv A outer s H vs Q E hr h => ⟨_, hbody cdv A outer s H E hr, ?_⟩
  · obtain ⟨tau, T, ds, n, r, n', c, rp, l, _⟩ := h
    rw [rp.length, l, ha]
  · obtain ⟨tau, T, ds, n, r, n', c, rp, l, t, e, q⟩ := h
    have hvl : vs.length = ar := by rw [rp.length, l]
    unfold mkF at e
    rw [if_pos l] at e
    have R0 : RS K (fz0 tau H) tau T (start0 (N.length - ar) ds) n (start N vs) H (fun _ => none) := by
      have := rs_start (N := N) c rp t (by rw [hvl]; exact hN)
      rw [hvl] at this
      exact this
    split at e
    · rename_i d n1 h1
      cases e
      exact ⟨_, tau, T, _, n, _, _, ⟨_, R0⟩, h1, fun v H' kk tt rr => q v H' (fz0_keep kk) tt rr (fun z => nomatch z)⟩
    · rename_i es n1 h1
      cases e
      exact ⟨_, tau, T, _, n, _, _, ⟨_, R0⟩, h1, fun p xs H' kk tt hp htp hT hp' ll rr => q (.ref p) H' (fz0_keep kk) tt (.lst hp' hT ll (rr.less fun a z => .inl z)) (fun z => nomatch z)⟩
    · rename_i S' n1 h1
      cases e
      exact ⟨_, tau, T, _, n, _, _, ⟨_, R0⟩, h1, fun σ' H' o' R' => q .non H' (fz0_keep (FzK.of_rs R')) R'.town .non (fun z => nomatch z)⟩
    · rename_i c' n1 h1
      cases e
      exact ⟨_, tau, T, _, n, _, _, ⟨_, R0⟩, h1, fun C σ' H' hC kk tt => q C H' hC (fz0_keep kk) tt⟩
    · cases e
theorem fn_mkL (F : FunD K x qual params body scope [] [] f fd) (S : FnScope N ps scope) (ha : ps.length = ar) (hN : ar ≤ N.length)
    (hbody : ∀ (cdv : Value) (A : Around) (outer : List Env) (s : Shared) (H : Hp) (E : XK), Room k (A.deeper (envOfC qual scope s.heap.objs.size f cdv)) →
      MSs (cxOf (L2.CX P w) P w K mg base N qual scope f cdv A outer s H E) (fun cls d _ H => E cls d H) body fb) : FnOk P w K mg base (L2.CX P w) (k + 1) f fd ps (spX K mg ar true (mkL ar (N.length - ar) fb)) := by
  refine F.ok S (fun vs H Q E h => ?_) fun cdv A outer s H vs Q E hr h => ⟨_, hbody cdv A outer s H E hr, ?_⟩
  · obtain ⟨tau, T, ds, n, r, n', c, rp, l, _⟩ := h
    rw [rp.length, l, ha]
  · obtain ⟨tau, T, ds, n, r, n', c, rp, l, t, e, q⟩ := h
    have hvl : vs.length = ar := by rw [rp.length, l]
    unfold mkL at e
    rw [if_pos l] at e
    have R0 : RS K (fz0 tau H) tau T (start0 (N.length - ar) ds) n (start N vs) H (fun _ => none) := by
      have := rs_start (N := N) c rp t (by rw [hvl]; exact hN)
      rw [hvl] at this
      exact this
    split at e
    · rename_i es n1 h1
      cases e
      refine ⟨_, tau, T, _, n, _, _, ⟨_, R0⟩, h1, fun p xs H' kk tt hp htp hT hp' ll rr => q (.ref p) H' (fz0_keep kk) tt (.lst hp' hT ll (rr.less fun a z => .inl z)) fun _ => ⟨p, xs, es, rfl, rfl, ?_, hp', ll, rr⟩⟩
      unfold fz0 at hp
      rw [if_neg htp] at hp
      exact hp
    · rename_i c' n1 h1
      cases e
      exact ⟨_, tau, T, _, n, _, _, ⟨_, R0⟩, h1, fun C σ' H' hC kk tt => q C H' hC (fz0_keep kk) tt⟩
    · cases e
end


/-! ### new lists: a display, list(x), x + y, x * k, a slice back -/
section
variable {X : Cx} {e a b : Expr} {es : List Expr} {pos p : Pos} {f g : FE} {fs : Fe (List D)}
theorem tMF_new {K : PySem.W.Frag} {tau : Option Addr} {T : Addr → Prop} {H1 : Hp} {xs : List V} {ds : List D} {p : Addr} (c : Cok tau T H1) (r : RpL K tau T H1 xs ds) (hp : H1 p = none) : RpL K tau (fun a => T a ∨ a = p) (upd H1 p (.lst xs)) xs ds :=
  r.move fun a x na ha => ⟨by rw [upd_ne (ne_of_none ha hp)]; exact ha, fun z => z.elim na (ne_of_none ha hp)⟩
theorem none_back {tau : Option Addr} {n : Nat} {H H1 : Hp} {p : Addr} (k : Keep tau H H1) (t : Town tau n H1) (hp : H1 p = none) : H p = none := by
  cases q : H p with
  | none => rfl
  | some o => rw [k p o (fun z => by rw [t p z] at hp; cases hp) q] at hp; cases hp
def aLim (f : Fe (List D)) : Fe (List D) := fun env n => match f env n with
  | some (ds, n1) => if ds.length ≤ lim then some (ds, n1) else none
  | none => none
theorem mf_lst (h : MA X es fs) : MF X (.List es pos) (aLim fs) := by
  refine pe_imp (pe_lst h) fun σ H Q q => ?_
  obtain ⟨tau, T, env, n, d, n', R, t, e, k⟩ := q
  unfold aLim at e
  split at e
  · rename_i ds n1 h1
    split at e
    · rename_i hl
      cases e
      rw [lim_eq] at hl
      refine tMA_run R t h1 fun v H1 k1 R1 t1 r1 => ⟨by rw [r1.length]; exact hl, fun p hp => ?_⟩
      exact k p v _ (k1.trans (Keep.of_same (same_upd hp))) (t1.of_same (same_upd hp)) (none_back k1 t1 hp) upd_same hl (tMF_new R1.ok r1 hp)
    · cases e
  · cases e
def aSeq (f : Fe (List D)) : Fe (List D) := fun env n => match f env n with
  | some ([.list ds], n1) => some (ds, n1)
  | some ([.tuple ds], n1) => some (ds, n1)
  | _ => none
theorem mf_list (hg : Gl X "list") (hm : X.mg "list" = none) (ha : MA X [e] fs) (he : starEach [e] X.env = (false, eval e X.env) :: starEach [] X.env := by rfl) (hpl : (backTo pos (starEach [] X.env)).any (·.1) = false := by rfl) : MF X (.Call (.Name "list" p) [e] [] pos) (aSeq fs) := by
  refine pe_imp (pe_callTy call_list_of hg hm (by decide +kernel) ha (by decide) (by decide) he hpl) fun σ H Q q => ?_
  obtain ⟨tau, T, env, n, d, n', R, t, e, k⟩ := q
  have fin : ∀ {d1 : D} {ds : List D} {n1 : Nat}, seq? d1 = some ds → fs env n = some ([d1], n1) → (d, n') = (ds, n1) → tCB (fun xs H Q => ∃ p ys, xs = [.ref p] ∧ (SqL X.K H p ys ∨ SqT X.K H p ys) ∧ ∀ l, H l = none → Q (.ref l) (upd H l (.lst ys))) (tMA X.K fs) σ H Q := by
    intro d1 ds n1 hs h1 he
    cases he
    refine tMA_run R t h1 fun v H1 k1 R1 t1 r1 => ?_
    obtain ⟨u, rfl, r2⟩ := rpl1 r1
    obtain ⟨a, xs, rfl, q, l, ha⟩ := seq_rp r2 hs
    refine ⟨a, xs, rfl, ha.imp SqL.of SqT.of, fun p hp => ?_⟩
    exact k p xs _ (k1.trans (Keep.of_same (same_upd hp))) (t1.of_same (same_upd hp)) (none_back k1 t1 hp) upd_same l (tMF_new R1.ok q hp)
  unfold aSeq at e
  split at e
  · rename_i ds n1 h1
    exact fin (d1 := .list ds) rfl h1 (Option.some.inj e).symm
  · rename_i ds n1 h1
    exact fin (d1 := .tuple ds) rfl h1 (Option.some.inj e).symm
  · cases e
def aCat (f g : FE) : Fe (List D) := fun env n => match f env n with
  | some (.list x, n1) => (match g env n1 with
    | some (.list y, n2) => if x.length + y.length ≤ lim then some (x ++ y, n2) else none
    | _ => none)
  | _ => none
theorem mf_cat (ha : ME X a f) (hb : ME X b g) : MF X (.BinOp a .Add b pos) (aCat f g) := by
  refine pe_imp (pe_op op_cat ha hb) fun σ H Q q => ?_
  obtain ⟨tau, T, env, n, d, n', R, t, e, k⟩ := q
  unfold aCat at e
  split at e
  · rename_i x n1 h1
    split at e
    · rename_i y n2 h2
      split at e
      · rename_i hl
        cases e
        rw [lim_eq] at hl
        refine tM_run R t h1 fun v H1 k1 R1 t1 r1 => ?_
        refine tM_run R1 t1 h2 fun u H2 k2 R2 t2 r2 => ?_
        have r1' := r1.keep k2 R.ok.tau
        cases r1' with
        | lst g1 m1 l1 q1 =>
          cases r2 with
          | lst g2 m2 l2 q2 =>
            refine ⟨_, _, _, _, rfl, rfl, g1, g2, by rw [q1.length, q2.length]; exact hl, fun p hp => ?_⟩
            have kk := k1.trans k2
            exact k p _ _ (kk.trans (Keep.of_same (same_upd hp))) (t2.of_same (same_upd hp)) (none_back kk t2 hp) upd_same (by rw [List.length_append]; exact hl) (tMF_new R2.ok (q1.append q2) hp)
      · cases e
    · cases e
  · cases e
def aRep (f g : FE) : Fe (List D) := fun env n => match f env n with
  | some (.list x, n1) => (match g env n1 with
    | some (.int k, n2) => if k < 2 ^ 63 ∧ -(2 ^ 63) ≤ k ∧ x.length * k.toNat ≤ lim then some ((List.replicate k.toNat x).flatten, n2) else none
    | _ => none)
  | _ => none
theorem mf_rep (ha : ME X a f) (hb : ME X b g) : MF X (.BinOp a .Mult b pos) (aRep f g) := by
  refine pe_imp (pe_op op_rep ha hb) fun σ H Q q => ?_
  obtain ⟨tau, T, env, n, d, n', R, t, e, k⟩ := q
  unfold aRep at e
  split at e
  · rename_i x n1 h1
    split at e
    · rename_i y n2 h2
      split at e
      · rename_i hl
        cases e
        obtain ⟨hl1, hl2, hl⟩ := hl
        rw [lim_eq] at hl
        refine tM_run R t h1 fun v H1 k1 R1 t1 r1 => ?_
        refine tM_run R1 t1 h2 fun u H2 k2 R2 t2 r2 => ?_
        have r1' := r1.keep k2 R.ok.tau
        cases r2
        cases r1' with
        | lst g1 m1 l1 q1 =>
          refine ⟨_, _, _, rfl, rfl, g1, hl2, hl1, by rw [q1.length]; exact hl, fun p hp => ?_⟩
          have kk := k1.trans k2
          exact k p _ _ (kk.trans (Keep.of_same (same_upd hp))) (t2.of_same (same_upd hp)) (none_back kk t2 hp) upd_same (by rw [flat_rep_len, Nat.mul_comm]; exact hl) (tMF_new R2.ok (q1.rep _) hp)
      · cases e
    · cases e
  · cases e
/-! ### min, max of two -/
def dMin2 : List D → Option D
  | [.int i, .int j] => some (.int (if j < i then j else i))
  | _ => none
def dMax2 : List D → Option D
  | [.int i, .int j] => some (.int (if j > i then j else i))
  | _ => none
theorem ok_min2 (K : PySem.W.Frag) : OkL K (fun xs H Q => ∃ i j, xs = [.int i, .int j] ∧ Q (.int (if j < i then j else i)) H) dMin2 := by
  intro tau T H xs ds d Q c r e k
  unfold dMin2 at e
  split at e
  · cases e
    obtain ⟨u, v, rfl, r1, r2⟩ := rpl2 r
    cases r1
    cases r2
    exact ⟨_, _, rfl, k _ _ (Same.refl _) (.int _)⟩
  · cases e
theorem ok_max2 (K : PySem.W.Frag) : OkL K (fun xs H Q => ∃ i j, xs = [.int i, .int j] ∧ Q (.int (if j > i then j else i)) H) dMax2 := by
  intro tau T H xs ds d Q c r e k
  unfold dMax2 at e
  split at e
  · cases e
    obtain ⟨u, v, rfl, r1, r2⟩ := rpl2 r
    cases r1
    cases r2
    exact ⟨_, _, rfl, k _ _ (Same.refl _) (.int _)⟩
  · cases e
/-! ### in, not in -/
def flatD : D → Bool
  | .none | .bool _ | .int _ | .str _ => true
  | _ => false
def inD (d : D) : D → Option Bool
  | .list ds => if SeqAt.shaped d && SeqAt.shaped (.list ds) then some (ds.any fun z => PyData.eqv z d) else none
  | .tuple ds => if flatD d && ds.all flatD then some (ds.any fun z => PyData.eqv z d) else none
  | _ => none
def dIn (d e : D) : Option D := (inD d e).map .bool
def dNotIn (d e : D) : Option D := (inD d e).map fun b => .bool (!b)
def rInA (K : PySem.W.Frag) : R2 := fun x y H Q => rInD K x y H Q ∨ rIn K false x y H Q
def rNotInA (K : PySem.W.Frag) : R2 := fun x y H Q => rNotInD K x y H Q ∨ rIn K true x y H Q
theorem op_inA {X : Cx} (hu : X.A.units + 65 < cLine) : OpR X (compareOp .In) (rInA X.K) := (op_inD hu).or op_in_seq
theorem op_notInA {X : Cx} (hu : X.A.units + 65 < cLine) : OpR X (compareOp .NotIn) (rNotInA X.K) := (op_notInD hu).or op_notIn_seq
section
variable {K : PySem.W.Frag} {tau : Option Addr} {T : Addr → Prop} {H : Hp}
theorem flat_rp {v : V} {d : D} (r : Rp K tau T H v d) (h : flatD d = true) : flatV v = true := by
  cases r <;> first | rfl | cases h
theorem eqV_rp {v u : V} {d e : D} (r : Rp K tau T H v d) (h : flatD d = true) (r2 : Rp K tau T H u e) (h2 : flatD e = true) : eqV v u = PyData.eqv d e := by
  cases r <;> cases r2 <;> first | cases h; done | cases h2; done | simp [eqV, PyData.eqv]
theorem flatL_rp : ∀ {vs : List V} {ds : List D}, RpL K tau T H vs ds → ds.all flatD = true → vs.all flatV = true
  | _, _, .nil, _ => rfl
  | _, _, .cons h r, c => by
    rw [List.all_cons, Bool.and_eq_true] at c
    rw [List.all_cons, flat_rp h c.1, flatL_rp r c.2]
    rfl
theorem inV_rp {x : V} {d : D} (rx : Rp K tau T H x d) (hx : flatD d = true) : ∀ {vs : List V} {ds : List D}, RpL K tau T H vs ds → ds.all flatD = true → inV x vs = ds.any fun z => PyData.eqv z d
  | _, _, .nil, _ => rfl
  | _, _, .cons h r, c => by
    rw [List.all_cons, Bool.and_eq_true] at c
    have ih := inV_rp rx hx r c.2
    unfold inV at ih ⊢
    rw [List.any_cons, List.any_cons, ih, eqV_rp h c.1 rx hx]
end
theorem ok_in (K : PySem.W.Frag) : Ok2 K (rInA K) dIn := by
  intro tau T H x y d1 d2 d Q c r1 r2 e k
  unfold dIn at e
  rw [Option.map_eq_some_iff] at e
  obtain ⟨b, e, rfl⟩ := e
  unfold inD at e
  split at e
  · split at e
    · rename_i h
      rw [Bool.and_eq_true] at h
      cases e
      exact .inl ⟨_, _, r1.dp (lay_of h.1), r2.dp (lay_of h.2), h.1, h.2, k _ _ (Same.refl _) (.bl _)⟩
    · cases e
  · split at e
    · rename_i h
      rw [Bool.and_eq_true] at h
      cases e
      cases r2 with
      | tup h1 n1 l1 q1 =>
        refine .inr ⟨_, _, rfl, .inr (SqT.of h1), flat_rp r1 h.1, flatL_rp q1 h.2, ?_⟩
        rw [if_neg Bool.false_ne_true, inV_rp r1 h.1 q1 h.2]
        exact k _ _ (Same.refl _) (.bl _)
    · cases e
  · cases e
theorem ok_notIn (K : PySem.W.Frag) : Ok2 K (rNotInA K) dNotIn := by
  intro tau T H x y d1 d2 d Q c r1 r2 e k
  unfold dNotIn at e
  rw [Option.map_eq_some_iff] at e
  obtain ⟨b, e, rfl⟩ := e
  unfold inD at e
  split at e
  · split at e
    · rename_i h
      rw [Bool.and_eq_true] at h
      cases e
      exact .inl ⟨_, _, r1.dp (lay_of h.1), r2.dp (lay_of h.2), h.1, h.2, k _ _ (Same.refl _) (.bl _)⟩
    · cases e
  · split at e
    · rename_i h
      rw [Bool.and_eq_true] at h
      cases e
      cases r2 with
      | tup h1 n1 l1 q1 =>
        refine .inr ⟨_, _, rfl, .inr (SqT.of h1), flat_rp r1 h.1, flatL_rp q1 h.2, ?_⟩
        rw [if_pos rfl, inV_rp r1 h.1 q1 h.2]
        exact k _ _ (Same.refl _) (.bl _)
    · cases e
  · cases e
/-! ### the script -/
def dLenS : D → Option D
  | .dict [(.none, .list ds)] => some (.int ds.length)
  | _ => none
def dIxS : D → D → Option D
  | .dict [(.none, .list ds)], .int i => atI ds i
  | _, _ => none
def dEqS : D → D → Option D
  | .dict [(.none, .list ds)], .list [] => some (.bool ds.isEmpty)
  | _, _ => none
section
variable (K : PySem.W.Frag)
theorem ok_lenS : OkL K (rLenA K) (c1 dLenS) := by
  intro tau T H xs ds d Q c r e k
  unfold c1 at e
  split at e
  · obtain ⟨v, rfl, h⟩ := rpl1 r
    unfold dLenS at e
    split at e
    · cases e
      cases h with
      | scr hs hl =>
        refine .inl ⟨_, _, rfl, .inl hs.sq, ?_⟩
        rw [List.length_map] at k ⊢
        exact k _ _ (Same.refl _) (.int _)
    · cases e
  · cases e
theorem atI_map {α β : Type} (g : α → β) (xs : List α) (i : Int) : atI (xs.map g) i = (atI xs i).map g := by
  unfold atI
  rw [List.length_map]
  cases ixN xs.length i with
  | none => rfl
  | some j => simp
theorem ok_ixS : Ok2 K (rIx K) dIxS := by
  intro tau T H x y d1 d2 d Q c r1 r2 e k
  unfold dIxS at e
  split at e
  · cases r2
    cases r1 with
    | scr hs hl =>
      rw [atI_map, Option.map_eq_some_iff] at e
      obtain ⟨z, h1, rfl⟩ := e
      exact .inl ⟨_, _, _, _, rfl, rfl, hs.sq, by rw [atI_map, h1]; rfl, k _ _ (Same.refl _) (.int _)⟩
  · cases e
theorem dpall_ints {H : Hp} : ∀ ns : List Int, DpAll K H (ns.map V.int) (ns.map .int)
  | [] => .nil
  | n :: r => .cons (.int n) (dpall_ints r)
theorem lay_ints : ∀ ns : List Int, PyData.canLayAll0 (ns.map .int) = true
  | [] => rfl
  | n :: r => by
    rw [List.map_cons, PyData.canLayAll0, lay_ints r]
    rfl
theorem depth_ints : ∀ ns : List Int, PyData.depthAll (ns.map .int) = 0
  | [] => rfl
  | n :: r => by
    rw [List.map_cons, PyData.depthAll, depth_ints r]
    rfl
theorem ok_eqS : Ok2 K (rEqD K) dEqS := by
  intro tau T H x y d1 d2 d Q c r1 r2 e k
  unfold dEqS at e
  split at e
  · cases e
    cases r1 with
    | @scr a ns hs hl =>
      have e2 : PyData.eqv (.list (ns.map .int)) (.list []) = (ns.map PyData.int).isEmpty := by
        cases ns with
        | nil => simp [PyData.eqv, PyData.eqvAll]
        | cons n r => simp [PyData.eqv, PyData.eqvAll]
      refine ⟨.list (ns.map .int), .list [], .lst hs.sq (dpall_ints K ns), r2.dp rfl, ?_, rfl, ?_⟩
      · show (PyData.canLay0 (.list (ns.map .int)) && decide (PyData.depth (.list (ns.map .int)) ≤ 64)) = true
        rw [PyData.canLay0, PyData.depth, lay_ints, depth_ints]
        rfl
      · rw [e2]
        exact k _ _ (Same.refl _) (.bl _)
  · cases e
end
/-! ### the town -/
def eTown (i : Nat) : FE := fun env n => match env[i]? with
  | some (some (.dict [])) => some (.int n, n)
  | _ => none
theorem me_lenTown {X : Cx} {i : Nat} {e : Expr} {p pos : Pos} (hg : Gl X "len") (hm : X.mg "len" = none) (he : PE X e (tVar i)) (hs : starEach [e] X.env = (false, eval e X.env) :: starEach [] X.env := by rfl) (hpl : (backTo pos (starEach [] X.env)).any (·.1) = false := by rfl) :
    ME X (.Call (.Name "len" p) [e] [] pos) (eTown i) := by
  refine pe_imp (pe_callB call_len_seq hg hm (by decide +kernel) (pa_cons he pa_nil hs) (by decide) (by decide) hs hpl) fun σ H Q q => ?_
  obtain ⟨tau, T, env, n, d, n', R, t, e, k⟩ := q
  unfold eTown at e
  split at e
  · rename_i h1
    cases e
    obtain ⟨v, h2, h3⟩ := R.get i _ h1
    cases h3 with
    | town ht =>
      refine ⟨_, h2, _, _, rfl, .inl (SqL.of (t _ ht)), ?_⟩
      rw [List.length_replicate]
      exact k _ H (Keep.refl H) t (.int _)
  · cases e
def sTown (i : Nat) : FS := fun S n => match S[i]? with
  | some (some (.val (.dict []))) => if n < lim then some (.nx S, n + 1) else none
  | _ => none
theorem ms_town {X : Cx} {W : WX} {st : Stmt} {i : Nat} (h : PS X st (tDrop (tBM X.K "list" rAppend (tVar i) (tCons (tC (.int 0)) tNil)))) : MS X W st (sTown i) := by
  refine ps_imp h fun Dn σ H q => ?_
  obtain ⟨Fz, tau, T0, S, n, fl, n', ⟨o, R⟩, e, a⟩ := q
  unfold sTown at e
  split at e
  · rename_i hS
    split at e
    · rename_i hl
      cases e
      rw [lim_eq] at hl
      obtain ⟨v, hσ, hv⟩ := R.slot i _ hS
      cases (show Rp X.K tau (tOf T0 o) H v (.dict []) from hv) with
      | @town p ht =>
        have hH := R.town p ht
        refine ⟨_, hσ, .inl ⟨rfl, _, SqL.of hH⟩, p, _, _, rfl, rfl, hH, by rw [List.length_replicate]; exact hl, ?_⟩
        refine a σ _ o (R.keep (fun b x hb hx => ?_) fun b hb => ?_)
        · rw [upd_ne (fun z => hb (by rw [z]; exact ht))]
          exact hx
        · rw [ht] at hb
          cases hb
          rw [upd_same, List.replicate_succ']
    · cases e
  · cases e
end
/-! ### packed rules -/
section
variable {X : Cx} {W : WX} {e : Expr} {es : List Expr} {pos pos' p : Pos} {fs : Fe (List D)} {x : Str} {i j k ar : Nat} {fr : Bool} {m : Fn} {f : FE}
theorem ms_set (hN : X.N.Nodup) (hi : X.N[i]? = some x) (hx : Loc X.env.scope x) (he : ME X e f) (hs : swapsWith e (some (.Name x pos')) pos.line X.env = pure false := by rfl) (hf : X.fn x = true ∨ X.env.scope.names.lookup x = some .local := by first | exact .inl rfl | exact .inr rfl | assumption) :
    MS X W (.Assign [.Name x pos'] e pos) (sSet i f) := ms_asg (ps_set hN hi hx he hs hf) rfl
theorem ms_setH (hN : X.N.Nodup) (hi : X.N[i]? = some x) (hx : Loc X.env.scope x) (he : ME X e f) (hs : swapsWith e (some (.Name x pos')) pos.line X.env = pure false := by rfl) (hf : X.fn x = true ∨ X.env.scope.names.lookup x = some .local := by first | exact .inl rfl | exact .inr rfl | assumption) :
    MS X W (.Assign [.Name x pos'] e pos) (sSetH i f) := ms_asgH (ps_set hN hi hx he hs hf) rfl
theorem ms_setO (hN : X.N.Nodup) (hi : X.N[i]? = some x) (hx : Loc X.env.scope x) (he : MF X e fs) (hs : swapsWith e (some (.Name x pos')) pos.line X.env = pure false := by rfl) (hf : X.fn x = true ∨ X.env.scope.names.lookup x = some .local := by first | exact .inl rfl | exact .inr rfl | assumption) :
    MS X W (.Assign [.Name x pos'] e pos) (sOwn i fs) := ms_own (ps_set hN hi hx he hs hf) rfl
theorem ms_setOH (hN : X.N.Nodup) (hi : X.N[i]? = some x) (hx : Loc X.env.scope x) (he : MF X e fs) (hs : swapsWith e (some (.Name x pos')) pos.line X.env = pure false := by rfl) (hf : X.fn x = true ∨ X.env.scope.names.lookup x = some .local := by first | exact .inl rfl | exact .inr rfl | assumption) :
    MS X W (.Assign [.Name x pos'] e pos) (sOwnH i fs) := ms_ownH (ps_set hN hi hx he hs hf) rfl
/-- y = [.. for ..] on one line, y a plain local -/
theorem ps_setLcF {i : Nat} {y : Str} {py : Pos} {elt tg iter : Expr} {ifs : List Expr} {scope : Scope} {own : List (Str × Nat)} {pos spos : Pos} {fi : Fe (List D)} {t : Tg} {ft : Fe Bool} {fe : FE} (hc : X.calm = true) (hN : X.N.Nodup) (hy : X.N[i]? = some y) (hyl : X.env.scope.names.lookup y = some .local)
    (hsw : swapsWith (.ListComp elt [⟨tg, iter, ifs, 0⟩] scope pos) (some (.Name y py)) spos.line X.env = pure true) (hi : MI X tg iter fi) (ok : BlkOk X.N X.env.scope scope own)
    (hg : ∀ (s : Shared) (H : Hp) (C : Addr) (cl : List (Str × Addr)) (fp : List Addr), MG (X.blk s H scope (compEnvC scope cl C X.env) fp) tg t) (ht : ∀ (s : Shared) (H : Hp) (C : Addr) (cl : List (Str × Addr)) (fp : List Addr), MTs (X.blk s H scope (compEnvC scope cl C X.env) fp) ifs ft)
    (he : ∀ (s : Shared) (H : Hp) (C : Addr) (cl : List (Str × Addr)) (fp : List Addr), ME (X.blk s H scope (compEnvC scope cl C X.env) fp) elt fe) (hsl : ∀ i ∈ t.slots, i ∈ own.map (·.2)) (hs : ∀ x, foldedSetIterable iter X.env x = pure x := by intro _; rfl) :
    PS X (.Assign [.Name y py] (.ListComp elt [⟨tg, iter, ifs, 0⟩] scope pos) spos) (tAsg (tMF X.K (eLc (own.map (·.2)) fi t ft fe)) (gName i)) :=
  ps_imp (ps_setLc hc hN hy hyl hsw hi ok hg ht he hs) fun Dn σ H q => tLc_of hsl σ H _ q
theorem ps_asgF {st : Stmt} {f : Fe (List D)} (h : PS X st (tAsg (tMF X.K f) (gName i))) : PS X st (tAsg (tM X.K (eList f)) (gName i)) := ps_imp h fun Dn σ H q => by
  obtain ⟨tau, T, env, n, d, n', R, t, e, k⟩ := q
  unfold eList at e
  split at e
  · rename_i ds n1 h1
    cases e
    exact ⟨tau, T, env, n, ds, _, R, t, h1, fun p xs H' k1 t1 hp hp' l r => k _ H' k1 t1 (.lst hp' (R.ok.notIn hp) l (r.less fun a ha => .inl ha))⟩
  · cases e
theorem ms_callS (h : Has X.prog X.w X.K X.mg X.base x k ar fr m) (hl : ∀ ds n, ds.length ≠ ar → m ds n = none) (hr : Room j X.A) (hk : k ≤ j) (tk : Takes X W) (hg : Gl X x) (ha : MA X (e :: es) fs)
    (hs : swapsWith (.Call (.Name x p) (e :: es) [] pos) none pos'.line X.env = pure false := by rfl) (hdb : (x == ("__debug__" : Str)) = false := by decide) (he : starEach (e :: es) X.env = (false, eval e X.env) :: starEach es X.env := by rfl) (hpl : (backTo pos (starEach es X.env)).any (·.1) = false := by rfl) :
    MS X W (.Expr (.Call (.Name x p) (e :: es) [] pos) pos') (sCallX m fs) := by
  obtain ⟨f, fd, ps, F, hm, hkp, hb⟩ := h.ex
  exact ms_callX hl (ps_expr (pe_callS F (hr.mono hk) hg hm hkp hb (fun σ => passAt tk σ) ha hdb he hpl) hs)
theorem ms_retS (h : Has X.prog X.w X.K X.mg X.base x k ar fr m) (hl : ∀ ds n, ds.length ≠ ar → m ds n = none) (hr : Room j X.A) (hk : k ≤ j) (tk : Takes X W) (hg : Gl X x) (ha : MA X (e :: es) fs)
    (hdb : (x == ("__debug__" : Str)) = false := by decide) (he : starEach (e :: es) X.env = (false, eval e X.env) :: starEach es X.env := by rfl) (hpl : (backTo pos (starEach es X.env)).any (·.1) = false := by rfl) :
    MS X W (.Return (some (.Call (.Name x p) (e :: es) [] pos)) pos') (sRetX m fs) := by
  obtain ⟨f, fd, ps, F, hm, hkp, hb⟩ := h.ex
  exact ms_retX hl (ps_ret (pe_callS F (hr.mono hk) hg hm hkp hb (fun σ => passAt tk σ) ha hdb he hpl))
/-- an own exception class over ValueError -/
def ExF (K : PySem.W.Frag) (mg : Str → Option Value) (c : Str) : Prop := ∃ C : Addr, mg c = some (.ref C) ∧ PySem.W.excIn K C He.veBase "ValueError.__new__" = true ∧ PySem.W.keepIn K (.ref C) = true ∧ PySem.W.subIn K (.ref C) (.type "BaseException") = some true ∧ PySem.W.typeIn K (.ref C) = some (.type "type")
theorem ms_rs {c m : Str} {j : Nat} {p2 : Pos} (h : ExF X.K X.mg c) (hc : X.calm = true) (tk : Takes X W) (hg : Gl X c) (hdb : (c == ("__debug__" : Str)) = false := by decide) : MS X W (.Raise (some (.Call (.Name c p) [.Constant (.str m) j p2] [] pos)) none pos') (sRaise c) := by
  obtain ⟨C, h1, h2, h3, h4, h5⟩ := h
  exact ms_raise h1 (ps_raise hc tk (pmk_own PySem.F.excBase_ValueError h2 h1 h3 (raises_own h4 h5) hg hdb))
/-- x.append(e), x.extend(e) -/
theorem ms_append {cpos apos : Pos} (ho : PE X e (tVar i)) (he : ME X a f) (hb : attributeBase e "append" X.env (eval e X.env) = eval e X.env := by rfl)
    (hfew : ((backTo cpos (starEach [a] X.env)).all (fun x => !x.1) && (backToKw cpos (keywordEach [] X.env)).all (fun x => x.1.isSome) && decide ([a].length + ([] : List Keyword).length + (if ([] : List Keyword).isEmpty then 0 else 1) < 30)) = true := by rfl)
    (hline : (apos.endLine == cpos.line) = true := by rfl) (hs : starEach [a] X.env = (false, eval a X.env) :: starEach [] X.env := by rfl) (hpl : (backTo cpos (starEach [] X.env)).any (·.1) = false := by rfl) (hsw : swapsWith (.Call (.Attribute e "append" apos) [a] [] cpos) none pos.line X.env = pure false := by rfl) :
    PS X (.Expr (.Call (.Attribute e "append" apos) [a] [] cpos) pos) (tDrop (tBM X.K "list" rAppend (tVar i) (tCons (tM X.K f) tNil))) :=
  ps_expr (pe_bm PySem.F.plainAttrs_list PySem.F.slot_list_append PySem.F.type_list_append mt_append ho (pa_cons he pa_nil hs) hb hfew hline hs hpl) hsw
theorem ms_extend {cpos apos : Pos} (ho : PE X e (tVar i)) (he : ME X a f) (hb : attributeBase e "extend" X.env (eval e X.env) = eval e X.env := by rfl)
    (hfew : ((backTo cpos (starEach [a] X.env)).all (fun x => !x.1) && (backToKw cpos (keywordEach [] X.env)).all (fun x => x.1.isSome) && decide ([a].length + ([] : List Keyword).length + (if ([] : List Keyword).isEmpty then 0 else 1) < 30)) = true := by rfl)
    (hline : (apos.endLine == cpos.line) = true := by rfl) (hs : starEach [a] X.env = (false, eval a X.env) :: starEach [] X.env := by rfl) (hpl : (backTo cpos (starEach [] X.env)).any (·.1) = false := by rfl) (hsw : swapsWith (.Call (.Attribute e "extend" apos) [a] [] cpos) none pos.line X.env = pure false := by rfl) :
    PS X (.Expr (.Call (.Attribute e "extend" apos) [a] [] cpos) pos) (tDrop (tBM X.K "list" rExtend (tVar i) (tCons (tM X.K f) tNil))) :=
  ps_expr (pe_bm PySem.F.plainAttrs_list PySem.F.slot_list_extend PySem.F.type_list_extend mt_extend ho (pa_cons he pa_nil hs) hb hfew hline hs hpl) hsw
end


/-! ### a new list of new lists -/
def lcGo2 (env : En) (t : Tg) (fe : Fe (List D)) : List D → Nat → Option (List (List D) × Nat)
  | [], n => some ([], n)
  | x :: r, n => match bindE t x env with
    | some env' => (match fe env' n with
      | some (y, n2) => (match lcGo2 env t fe r n2 with
        | some (ys, n3) => some (y :: ys, n3)
        | none => none)
      | none => none)
    | none => none
def eLc2 (own : List Nat) (fi : Fe (List D)) (t : Tg) (fe : Fe (List D)) : Fe (List (List D)) := fun env n => match fi env n with
  | some (items, n1) => lcGo2 (wipeE env own) t fe items n1
  | none => none
def tMF2 (K : PySem.W.Frag) (f : Fe (List (List D))) : TE := fun σ H Q => ∃ (tau : Option Addr) (T : Addr → Prop) (env : En) (n : Nat) (dss : List (List D)) (n' : Nat),
  RE K tau T env σ H ∧ Town tau n H ∧ f env n = some (dss, n') ∧ ∀ p bs H', Keep tau H H' → Town tau n' H' → (∀ b ∈ p :: bs, H b = none) → (p :: bs).Nodup → H' p = some (.lst (bs.map V.ref)) → dss.length ≤ sizeLine → Rows K tau (fun a => T a ∨ a ∈ p :: bs) H' bs dss → Q (.ref p) H'
theorem Rows.length {K : PySem.W.Frag} {tau : Option Addr} {T : Addr → Prop} {H : Hp} {bs : List Addr} {dss : List (List D)} (h : Rows K tau T H bs dss) : bs.length = dss.length := by
  induction h with
  | nil => rfl
  | cons _ _ _ _ _ ih => rw [List.length_cons, List.length_cons, ih]
theorem Rows.append {K : PySem.W.Frag} {tau : Option Addr} {T : Addr → Prop} {H : Hp} {bs bs' : List Addr} {dss dss' : List (List D)} (h : Rows K tau T H bs dss) (h' : Rows K tau T H bs' dss') : Rows K tau T H (bs ++ bs') (dss ++ dss') := by
  induction h with
  | nil => exact h'
  | cons xs a b c _ ih => exact .cons xs a b c ih
theorem Rows.mem {K : PySem.W.Frag} {tau : Option Addr} {T : Addr → Prop} {H : Hp} {bs : List Addr} {dss : List (List D)} (h : Rows K tau T H bs dss) : ∀ b ∈ bs, ∃ xs, H b = some (.lst xs) := by
  induction h with
  | nil => intro b hb; cases hb
  | cons xs a _ _ _ ih =>
    intro b hb
    rcases List.mem_cons.mp hb with rfl | hb
    · exact ⟨xs, a⟩
    · exact ih b hb
section
variable {K : PySem.W.Frag}
theorem tLc2_of {fi : Fe (List D)} {t : Tg} {fe : Fe (List D)} {own : List Nat} (hs : ∀ i ∈ t.slots, i ∈ own) : ∀ σ H Q, tMF2 K (eLc2 own fi t fe) σ H Q → tLc (iM K fi) (gOf K t) tYes (tMF K fe) own σ H Q := by
  intro σ H Q q
  obtain ⟨tau, T, env, n, dss, n', R, tn, e, k⟩ := q
  unfold eLc2 at e
  split at e
  · rename_i items n1 h1
    refine ⟨tau, T, env, n, items, n1, R, tn, h1, fun J H1 k1 t1 wk Dd hD => ?_⟩
    have R1 : RE K tau T env σ H1 := R.keep k1 t1
    have hDt : tau ≠ some Dd := fun z => by rw [t1 Dd z] at hD; cases hD
    refine ⟨fun i m Hi => m = items.length - i ∧ i ≤ items.length ∧ ∃ (ni : Nat) (bs : List Addr) (accD rest : List (List D)), Keep tau H1 Hi ∧ Town tau ni Hi ∧ (Dd :: bs).Nodup ∧ (∀ b ∈ bs, H1 b = none) ∧ Hi Dd = some (.lst (bs.map V.ref)) ∧
      Rows K tau (fun a => T a ∨ a ∈ Dd :: bs) Hi bs accD ∧ accD.length ≤ i ∧ lcGo2 (wipeE env own) t fe (items.drop i) ni = some (rest, n') ∧ accD ++ rest = dss, ?_, ?_⟩
    · exact ⟨items.length, by simp, Nat.zero_le _, n1, [], [], dss, Keep.of_same (same_upd hD), t1.of_same (same_upd hD), by simp, (fun b hb => by cases hb), upd_same, .nil, Nat.zero_le _, e, rfl⟩
    · rintro i m Hi ⟨rfl, hi, ni, bs, accD, rest, ki, ti, nd, fresh, hDi, ri, la, eg, ea⟩
      have fr : ∀ b ∈ Dd :: bs, H1 b = none := fun b hb => (List.mem_cons.mp hb).elim (fun z => by rw [z]; exact hD) (fresh b)
      have mv : ∀ a x, ¬ T a → H1 a = some x → Hi a = some x ∧ ¬ (T a ∨ a ∈ Dd :: bs) := fun a x na ha =>
        ⟨ki a x (fun z => na (R.ok.tau a z)) ha, fun z => z.elim na fun q => by rw [fr a q] at ha; cases ha⟩
      have c2 : Cok tau (fun a => T a ∨ a ∈ Dd :: bs) Hi := ⟨fun a z => .inl (R.ok.tau a z), fun a z => by
        rcases z with z | z
        · exact (R1.ok.keep ki ti).tin a z
        · rcases List.mem_cons.mp z with z | z
          · rw [z, hDi]; exact fun q => nomatch q
          · obtain ⟨xs, hx⟩ := ri.mem a z
            rw [hx]; exact fun q => nomatch q⟩
      obtain ⟨go, st⟩ := wk.run _ Hi mv c2
      by_cases hlt : i < items.length
      · obtain ⟨g1, g2⟩ := go i hlt
        have hdrop : items.drop i = items[i] :: items.drop (i + 1) := List.drop_eq_getElem_cons hlt
        rw [hdrop] at eg
        unfold lcGo2 at eg
        split at eg
        · rename_i env' hb
          refine .inr ⟨g1, fun Hn => i + 1 ≤ items.length ∧ ∃ (ni : Nat) (bs : List Addr) (accD rest : List (List D)), Keep tau H1 Hn ∧ Town tau ni Hn ∧ (Dd :: bs).Nodup ∧ (∀ b ∈ bs, H1 b = none) ∧ Hn Dd = some (.lst (bs.map V.ref)) ∧
            Rows K tau (fun a => T a ∨ a ∈ Dd :: bs) Hn bs accD ∧ accD.length ≤ i + 1 ∧ lcGo2 (wipeE env own) t fe (items.drop (i + 1)) ni = some (rest, n') ∧ accD ++ rest = dss, ?_, ?_⟩
          · rintro Hn ⟨q1, q2⟩
            exact ⟨items.length - (i + 1), by omega, rfl, q1, q2⟩
          · intro x H' hy
            obtain ⟨sm, d, hd, rx⟩ := g2 x H' hy
            rw [List.getElem?_eq_getElem hlt] at hd
            cases hd
            have t' : Town tau ni H' := ti.of_same sm
            have R2 : RE K tau (fun a => T a ∨ a ∈ Dd :: bs) (wipeE env own) (wipe σ own) H' := by
              refine ⟨c2.same sm, by rw [wipeE_length, wipe_length]; exact R.len, fun j d' ej => ?_⟩
              obtain ⟨v, h3, h4⟩ := (R1.wipe own).get j d' ej
              exact ⟨v, h3, (h4.move mv).same sm c2.tau⟩
            refine gOf_run R2 rx hb fun vs R3 => ⟨wipe_bind hs, ?_⟩
            unfold tYes
            dsimp only
            rw [if_pos rfl]
            split at eg
            · rename_i y n3 h3
              split at eg
              · rename_i ys n5 h5
                cases eg
                refine ⟨tau, _, env', ni, y, n3, R3, t', h3, fun p xs H4 k4 t4 hp hp' l4 r4 => ?_⟩
                have bt : ∀ b ∈ Dd :: bs, tau ≠ some b := fun b hb z => by
                  have := fr b hb
                  rw [t1 b z] at this; cases this
                have hD4 : H4 Dd = some (.lst (bs.map V.ref)) := k4 _ _ hDt (sm _ _ hDi)
                have hp1 : H1 p = none := by
                  cases q : H1 p with
                  | none => rfl
                  | some o =>
                    rw [((Keep.of_same sm) p o (fun z => by rw [t' p z] at hp; cases hp) (ki p o (fun z => by rw [t' p z] at hp; cases hp) q))] at hp
                    cases hp
                have hpD : p ≠ Dd := fun z => by rw [z, sm _ _ hDi] at hp; cases hp
                have hpb : p ∉ bs := fun z => by
                  obtain ⟨xs', hx'⟩ := ri.mem p z
                  rw [sm _ _ hx'] at hp; cases hp
                have kk : Keep tau H1 H4 := (ki.trans (Keep.of_same sm)).trans k4
                refine ⟨bs.map V.ref, hD4, ?_, hlt, n3, bs ++ [p], accD ++ [y], ys, fun a o na ha => ?_, fun a ha => ?_, ?_, ?_, ?_, ?_, by rw [List.length_append]; simp; omega, h5, ?_⟩
                · rw [List.length_map, ri.length]
                  have := wk.len
                  omega
                · rw [upd_ne (ne_of_none ha hD)]
                  exact kk a o na ha
                · rw [upd_ne (fun z => hDt (by rw [← z]; exact ha))]
                  exact t4 a ha
                · rw [← List.cons_append, List.nodup_append]
                  refine ⟨nd, by simp, fun a ha b hb => ?_⟩
                  have eb : b = p := by simpa using hb
                  subst eb
                  intro z
                  subst z
                  rcases List.mem_cons.mp ha with z | z
                  · exact hpD z
                  · exact hpb z
                · intro b hb
                  rcases List.mem_append.mp hb with hb | hb
                  · exact fresh b hb
                  · have eb : b = p := by simpa using hb
                    rw [eb]; exact hp1
                · rw [upd_same, List.map_append]
                  rfl
                · have mem_iff : ∀ a, (T a ∨ a ∈ Dd :: (bs ++ [p])) → ((T a ∨ a ∈ Dd :: bs) ∨ a = p) := fun a z => by
                    rcases z with z | z
                    · exact .inl (.inl z)
                    · rw [← List.cons_append] at z
                      rcases List.mem_append.mp z with z | z
                      · exact .inl (.inr z)
                      · exact .inr (by simpa using z)
                  have old : Rows K tau (fun a => T a ∨ a ∈ Dd :: (bs ++ [p])) (upd H4 Dd (.lst (bs.map V.ref ++ [.ref p]))) bs accD := by
                    refine ri.move (fun a x na ha => ?_) fun b hb x hx => ?_
                    · have ha4 : H4 a = some x := k4 a x (fun z => na (.inl (R.ok.tau a z))) (sm _ _ ha)
                      refine ⟨by rw [upd_ne (fun z => na (.inr (by rw [z]; exact List.mem_cons_self)))]; exact ha4, fun z => ?_⟩
                      rcases mem_iff a z with z | z
                      · exact na z
                      · rw [z, ] at ha
                        rw [sm _ _ ha] at hp; cases hp
                    · rw [upd_ne (fun z => (List.nodup_cons.mp nd).1 (by rw [← z]; exact hb))]
                      exact k4 b x (bt b (List.mem_cons_of_mem _ hb)) (sm _ _ hx)
                  refine old.append (.cons xs ?_ l4 (r4.move fun a x na ha => ⟨?_, fun z => na (mem_iff a z)⟩) .nil)
                  · rw [upd_ne hpD]; exact hp'
                  · rw [upd_ne (fun z => na (.inl (.inr (by rw [z]; exact List.mem_cons_self))))]
                    exact ha
                · rw [List.append_assoc]; exact ea
              · cases eg
            · cases eg
        · cases eg
      · have hie : i = items.length := by omega
        subst hie
        rw [List.drop_length] at eg
        cases eg
        rw [List.append_nil] at ea
        subst ea
        refine .inl ⟨st, k Dd bs Hi (k1.trans ki) ti (fun b hb => none_back k1 t1 (fr b hb)) nd hDi (by have := wk.len; omega) ri⟩
  · cases e
end
abbrev MF2 (X : Cx) (e : Expr) (f : Fe (List (List D))) : Prop := PE X e (tMF2 X.K f)
/-! ### slot i with several new cells -/
section
variable {K : PySem.W.Frag} {Fz : Hp} {tau : Option Addr} {T0 : Addr → Prop} {S : Es} {n n' : Nat} {σ : L2.St} {H H' : Hp} {o o' : Addr → Option Nat}
theorem RS.upd' {i : Nat} {v' : V} {sv' : SV} (R : RS K Fz tau T0 S n σ H o) (t : Town tau n' H') (h1 : ∀ a x, H a = some x → o a ≠ some i → tau ≠ some a → H' a = some x) (h2 : ∀ a j, j ≠ i → (o' a = some j ↔ o a = some j)) (h3 : ∀ a, o' a = some i → o a = some i ∨ H a = none)
    (h4 : ∀ a, o' a = some i → ∃ x, H' a = some x ∧ Pm.noTup x) (h5 : SvRp K tau (tOf T0 o') H' o' i v' sv') : RS K Fz tau T0 (S.set i (some sv')) n' (σ.set i (some v')) H' o' := by
  -- first the town, then the slot
  let Hm : Hp := fun a => if tau = some a then H' a else H a
  have km : Keep tau H Hm := fun a x ha hx => by show (if tau = some a then H' a else H a) = _; rw [if_neg ha]; exact hx
  have tm : Town tau n' Hm := fun a ha => by show (if tau = some a then H' a else H a) = _; rw [if_pos ha]; exact t a ha
  have Rm := R.keep km tm
  refine Rm.upd (fun a x hx hn => ?_) h2 (fun a ha => ?_) h4 h5
  · have hx' : (if tau = some a then H' a else H a) = some x := hx
    by_cases ht : tau = some a
    · rw [if_pos ht] at hx'; exact hx'
    · rw [if_neg ht] at hx'; exact h1 a x hx' hn ht
  · rcases h3 a ha with z | z
    · exact .inl z
    · refine .inr ?_
      show (if tau = some a then H' a else H a) = none
      rw [if_neg]
      · exact z
      · intro q; rw [R.town a q] at z; cases z
def ownL (o : Addr → Option Nat) (i : Nat) (ps : List Addr) : Addr → Option Nat := fun a => if a ∈ ps then some i else drop1 o i a
theorem RS.setOwn2 {i : Nat} {p : Addr} {bs : List Addr} {dss : List (List D)} (R : RS K Fz tau T0 S n σ H o) (k : Keep tau H H') (t : Town tau n' H') (hf : ∀ b ∈ p :: bs, H b = none) (nd : (p :: bs).Nodup) (hp' : H' p = some (.lst (bs.map V.ref))) (l : dss.length ≤ sizeLine)
    (r : Rows K tau (fun a => tOf T0 o a ∨ a ∈ p :: bs) H' bs dss) : RS K Fz tau T0 (S.set i (some (.own2 dss))) n' (σ.set i (some (.ref p))) H' (ownL o i (p :: bs)) := by
  have op : ∀ b ∈ p :: bs, o b = none := fun b hb => by
    cases q : o b with
    | none => rfl
    | some j =>
      obtain ⟨x, hx, _⟩ := R.own b j q
      rw [hf b hb] at hx; cases hx
  have sub : ∀ a, tOf T0 (ownL o i (p :: bs)) a → tOf T0 o a ∨ a ∈ p :: bs := fun a z => by
    rcases z with z | ⟨j, z⟩
    · exact .inl (.inl z)
    · unfold ownL at z
      split at z
      · exact .inr (by assumption)
      · exact .inl (.inr ⟨j, drop1_sub z⟩)
  refine R.upd' t (fun a x hx _ ht => k a x ht hx) (fun a j hj => ?_) (fun a ha => ?_) (fun a ha => ?_) ⟨p, bs, rfl, by unfold ownL; rw [if_pos List.mem_cons_self], nd, fun b hb => by unfold ownL; rw [if_pos (List.mem_cons_of_mem _ hb)], hp', l, r.move (fun a x na hx => ⟨hx, fun z => na (sub a z)⟩) fun b _ x hx => hx⟩
  · unfold ownL
    by_cases ha : a ∈ p :: bs
    · rw [if_pos ha, op a ha]
      exact ⟨fun z => absurd (Option.some.inj z).symm hj, fun z => (by cases z)⟩
    · rw [if_neg ha]
      exact drop1_ne hj
  · unfold ownL at ha
    split at ha
    · exact .inr (hf a (by assumption))
    · exact absurd ha drop1_eq
  · unfold ownL at ha
    split at ha
    · rename_i hm
      rcases List.mem_cons.mp hm with z | z
      · rw [z]; exact ⟨_, hp', trivial⟩
      · obtain ⟨xs, hx⟩ := r.mem a z
        exact ⟨_, hx, trivial⟩
    · exact absurd ha drop1_eq
end
def sOwn2 (i : Nat) (f : Fe (List (List D))) : FS := fun S n => match f (hidE S) n with
  | some (dss, n1) => some (.nx (S.set i (some (.own2 dss))), n1)
  | none => none
theorem ms_own2 {X : Cx} {W : WX} {st : Stmt} {i : Nat} {f : Fe (List (List D))} (h : PS X st (tAsg (tMF2 X.K f) (gName i))) : MS X W st (sOwn2 i f) := by
  refine ps_imp h fun Dn σ H q => ?_
  obtain ⟨Fz, tau, T0, S, n, fl, n', ⟨o, R⟩, e, a⟩ := q
  unfold sOwn2 at e
  split at e
  · rename_i dss n1 h1
    cases e
    exact ⟨tau, _, hidE S, n, dss, _, R.hid, R.town, h1, fun p bs H' k t hf nd hp' l r => a _ _ _ (R.setOwn2 (i := i) k t hf nd hp' l r)⟩
  · cases e
theorem ps_setLc2F {X : Cx} {i : Nat} {y : Str} {py : Pos} {elt tg iter : Expr} {scope : Scope} {own : List (Str × Nat)} {pos spos : Pos} {fi : Fe (List D)} {t : Tg} {fe : Fe (List D)} (hc : X.calm = true) (hN : X.N.Nodup) (hy : X.N[i]? = some y) (hyl : X.env.scope.names.lookup y = some .local)
    (hsw : swapsWith (.ListComp elt [⟨tg, iter, [], 0⟩] scope pos) (some (.Name y py)) spos.line X.env = pure true) (hi : MI X tg iter fi) (ok : BlkOk X.N X.env.scope scope own)
    (hg : ∀ (s : Shared) (H : Hp) (C : Addr) (cl : List (Str × Addr)) (fp : List Addr), MG (X.blk s H scope (compEnvC scope cl C X.env) fp) tg t)
    (he : ∀ (s : Shared) (H : Hp) (C : Addr) (cl : List (Str × Addr)) (fp : List Addr), MF (X.blk s H scope (compEnvC scope cl C X.env) fp) elt fe) (hsl : ∀ i ∈ t.slots, i ∈ own.map (·.2)) (hs : ∀ x, foldedSetIterable iter X.env x = pure x := by intro _; rfl) :
    PS X (.Assign [.Name y py] (.ListComp elt [⟨tg, iter, [], 0⟩] scope pos) spos) (tAsg (tMF2 X.K (eLc2 (own.map (·.2)) fi t fe)) (gName i)) :=
  ps_imp (ps_setLc hc hN hy hyl hsw hi ok hg (fun _ _ _ _ _ => pts_nil) he hs) fun Dn σ H q => tLc2_of hsl σ H _ q
/-- the same where y is a cell (captured by a comprehension) -/
theorem ps_setLc2C {X : Cx} {i : Nat} {y : Str} {py : Pos} {elt tg iter : Expr} {scope : Scope} {own : List (Str × Nat)} {pos spos : Pos} {fi : Fe (List D)} {t : Tg} {fe : Fe (List D)} (hc : X.calm = true) (hN : X.N.Nodup) (hy : X.N[i]? = some y) (hyl : Loc X.env.scope y)
    (hsw : swapsWith (.ListComp elt [⟨tg, iter, [], 0⟩] scope pos) (some (.Name y py)) spos.line X.env = pure false) (hi : MI X tg iter fi) (ok : BlkOk X.N X.env.scope scope own)
    (hg : ∀ (s : Shared) (H : Hp) (C : Addr) (cl : List (Str × Addr)) (fp : List Addr), MG (X.blk s H scope (compEnvC scope cl C X.env) fp) tg t)
    (he : ∀ (s : Shared) (H : Hp) (C : Addr) (cl : List (Str × Addr)) (fp : List Addr), MF (X.blk s H scope (compEnvC scope cl C X.env) fp) elt fe) (hsl : ∀ i ∈ t.slots, i ∈ own.map (·.2)) (hs : ∀ x, foldedSetIterable iter X.env x = pure x := by intro _; rfl)
    (hf : X.fn y = true ∨ X.env.scope.names.lookup y = some .local := by first | exact .inl rfl | exact .inr rfl | assumption) :
    PS X (.Assign [.Name y py] (.ListComp elt [⟨tg, iter, [], 0⟩] scope pos) spos) (tAsg (tMF2 X.K (eLc2 (own.map (·.2)) fi t fe)) (gName i)) :=
  ps_imp (ps_set hN hy hyl (pe_lc hc hN hi ok hg (fun _ _ _ _ _ => pts_nil) he hs) hsw hf) fun Dn σ H q => tLc2_of hsl σ H _ q
/-! ### rows[i][j] op= e -/
def rIxN (K : PySem.W.Frag) : V → V → Hp → VK → Prop := fun x y H Q => ∃ p xs i v, x = .ref p ∧ y = .int i ∧ 0 ≤ i ∧ SqL K H p xs ∧ xs[i.toNat]? = some v ∧ Q v H
theorem pget_list {X : Cx} : PGet X (rIxN X.K) := by
  intro pins s σ H x y v u Q I rx ry h
  obtain ⟨p, xs, i, z, rfl, rfl, h0, hq, he, q⟩ := h
  cases rx
  obtain ⟨t, rfl⟩ := ry
  obtain ⟨its, r, pl, hz⟩ := I.list hq
  obtain ⟨w, ew, rw'⟩ := r.get he
  have hl : i.toNat < xs.length := by
    cases Nat.lt_or_ge i.toNat xs.length with
    | inl z => exact z
    | inr z => rw [List.getElem?_eq_none z] at he; cases he
  have hn := line63
  exact wpAny_getItem_list pl.isList h0 (by omega) (by simpa using ew) ⟨z, H, I, rw', q⟩
def sAug2 (r : Nat) (fi fj fe : FE) (g : Int → Int → Int) : FS := fun S n => match S[r]? with
  | some (some (.own2 dss)) => (match fi (frzE S) n with
    | some (.int i, n1) => (match fj (frzE S) n1 with
      | some (.int j, n2) => (match dss[i.toNat]? with
        | some ds => (match ds[j.toNat]? with
          | some (.int x) => (match fe (frzE S) n2 with
            | some (.int y, n3) => if 0 ≤ i ∧ 0 ≤ j then some (.nx (S.set r (some (.own2 (dss.set i.toNat (ds.set j.toNat (.int (g x y))))))), n3) else none
            | _ => none)
          | _ => none)
        | none => none)
      | _ => none)
    | _ => none)
  | _ => none
theorem Rows.get {K : PySem.W.Frag} {tau : Option Addr} {T : Addr → Prop} {H : Hp} {bs : List Addr} {dss : List (List D)} (h : Rows K tau T H bs dss) : ∀ {i : Nat} {ds : List D}, dss[i]? = some ds → ∃ b xs, bs[i]? = some b ∧ H b = some (.lst xs) ∧ ds.length ≤ sizeLine ∧ RpL K tau T H xs ds := by
  induction h with
  | nil => intro i ds e; simp at e
  | cons xs a b c _ ih =>
    intro i ds e
    cases i with
    | zero => simp at e; subst e; exact ⟨_, xs, rfl, a, b, c⟩
    | succ i => exact ih (by simpa using e)
theorem Rows.set {K : PySem.W.Frag} {tau : Option Addr} {T : Addr → Prop} {H : Hp} {bs : List Addr} {dss : List (List D)} (h : Rows K tau T H bs dss) : ∀ {i : Nat} {b : Addr} {xs : List V} {ds : List D}, bs.Nodup → bs[i]? = some b → T b → ds.length ≤ sizeLine → RpL K tau T H xs ds → Rows K tau T (L2.upd H b (.lst xs)) bs (dss.set i ds) := by
  induction h with
  | nil => intro i b xs ds _ e; simp at e
  | @cons b0 bs0 ds0 dss0 xs0 a l c t ih =>
    intro i b xs ds nd e tb ld r
    have mv : ∀ a x, ¬ T a → H a = some x → (L2.upd H b (.lst xs)) a = some x ∧ ¬ T a := fun a x na ha => ⟨by rw [upd_ne (fun z => na (by rw [z]; exact tb))]; exact ha, na⟩
    cases i with
    | zero =>
      simp at e
      subst e
      refine .cons xs upd_same ld (r.move mv) (t.move mv fun b' hb x hx => ?_)
      rw [upd_ne (fun z => (List.nodup_cons.mp nd).1 (by rw [← z]; exact hb))]
      exact hx
    | succ i =>
      have e' : bs0[i]? = some b := by simpa using e
      have hne : b0 ≠ b := fun z => (List.nodup_cons.mp nd).1 (by rw [z]; exact List.mem_of_getElem? e')
      exact .cons xs0 (by rw [upd_ne hne]; exact a) l (c.move mv) (ih (List.nodup_cons.mp nd).2 e' tb ld r)
theorem ixN_nat {n : Nat} {i : Int} (h0 : 0 ≤ i) (h : i.toNat < n) : ixN n i = some i.toNat := by
  unfold ixN
  rw [if_pos h0, if_pos (by omega)]
theorem ms_aug2 {X : Cx} {W : WX} {r : Nat} {o i e er : Expr} {fi fj fe : FE} {g : Int → Int → Int} {op : Operator} {pos tpos p2 : Pos} (ho : PE X er (tVar r)) (hi : ME X o fi) (hj : ME X i fj) (he : ME X e fe) (hp : PIp X op (ipI g)) (hs : PlainIx o)
    (ha : ∀ ov iv new, augStore i ov iv new = (do holding [new, ov, iv] (setItem ov iv new); release [new, ov, iv] []; pure .next) := by intros; rfl) :
    MS X W (.AugAssign (.Subscript (.Subscript er o p2) i tpos) op e pos) (sAug2 r fi fj fe g) := by
  refine ps_imp (ps_augS (pe_ix ix_list ho hi hs) hj pget_list he hp set_list ha) fun Dn σ H q => ?_
  obtain ⟨Fz, tau, T0, S, n, fl, n', ⟨ow, R⟩, e, a⟩ := q
  unfold sAug2 at e
  split at e
  · rename_i dss hS
    split at e
    · rename_i i n1 h1
      split at e
      · rename_i j n2 h2
        split at e
        · rename_i ds hds
          split at e
          · rename_i x hx
            split at e
            · rename_i y n3 h3
              split at e
              · rename_i hij
                cases e
                obtain ⟨v, hσ, p, bs, rfl, _⟩ := R.slot r _ hS
                refine ⟨_, hσ, ?_⟩
                refine tM_run R.frz R.town h1 fun v1 H1 k1 R1 t1 r1 => ?_
                cases r1
                have Ra := R.keep k1 t1
                obtain ⟨v2, hσ2, p2, bs2, e2, ho2, nd2, hb2, hp2, l2, rw2⟩ := Ra.slot r _ hS
                rw [hσ] at hσ2
                cases hσ2
                cases e2
                obtain ⟨b, xs, hb, hxs, ld, rl⟩ := rw2.get hds
                have hbl : i.toNat < bs2.length := by
                  cases Nat.lt_or_ge i.toNat bs2.length with
                  | inl z => exact z
                  | inr z => rw [List.getElem?_eq_none z] at hb; cases hb
                refine ⟨_, _, _, .ref b, rfl, rfl, SqL.of hp2, ?_, ?_⟩
                · unfold atI
                  rw [List.length_map, ixN_nat hij.1 hbl]
                  show (bs2.map V.ref)[i.toNat]? = _
                  rw [List.getElem?_map, hb]
                  rfl
                refine tM_run R1 t1 h2 fun v2 H2 k2 R2 t2 r2 => ?_
                cases r2
                have Rb := Ra.keep k2 t2
                obtain ⟨v3, hσ3, p3, bs3, e3, ho3, nd3, hb3, hp3, l3, rw3⟩ := Rb.slot r _ hS
                rw [hσ] at hσ3
                cases hσ3
                cases e3
                have hpp : bs3 = bs2 := by
                  have := k2 _ _ (fun z => by rw [(R.ta _ z).2] at ho2; cases ho2) hp2
                  rw [hp3] at this
                  have h4 := HO.lst.inj (Option.some.inj this)
                  have h5 : ∀ (l1 l2 : List Addr), l1.map V.ref = l2.map V.ref → l1 = l2 := fun l1 => by
                    induction l1 with
                    | nil => intro l2 h; cases l2 with
                      | nil => rfl
                      | cons a b => cases h
                    | cons a l ih => intro l2 h; cases l2 with
                      | nil => cases h
                      | cons c d =>
                        rw [List.map_cons, List.map_cons] at h
                        injection h with h1 h2
                        rw [V.ref.inj h1, ih d h2]
                  exact h5 _ _ h4
                subst hpp
                obtain ⟨b', ys, hb', hys, ld', rl'⟩ := rw3.get hds
                rw [hb] at hb'
                cases hb'
                obtain ⟨vx, hvx, rvx⟩ := rl'.get hx
                cases rvx
                refine ⟨b, ys, _, _, rfl, rfl, hij.2, SqL.of hys, hvx, ?_⟩
                refine tM_run R2 t2 h3 fun v3 H3 k3 R3 t3 r3 => ?_
                cases r3
                have Rc := Rb.keep k3 t3
                obtain ⟨v4, hσ4, p4, bs4, e4, ho4, nd4, hb4, hp4, l4, rw4⟩ := Rc.slot r _ hS
                rw [hσ] at hσ4
                cases hσ4
                cases e4
                have ob : ow b = some r := hb3 b (List.mem_of_getElem? hb)
                have hys3 : H3 b = some (.lst ys) := k3 _ _ (fun z => by rw [(R.ta _ z).2] at ob; cases ob) hys
                have hp3' : H3 p = some (.lst (bs3.map V.ref)) := k3 _ _ (fun z => by rw [(R.ta _ z).2] at ho3; cases ho3) hp3
                have rw3' : Rows X.K tau (tOf T0 ow) H3 bs3 dss := rw3.move (fun a x na ha => ⟨k3 a x (fun z => na (.inl (R.ta a z).1)) ha, na⟩) fun b2 hb2' x hx' => k3 b2 x (fun z => by have := hb3 b2 hb2'; rw [(R.ta _ z).2] at this; cases this) hx'
                have rl3 : RpL X.K tau (tOf T0 ow) H3 ys ds := rl'.move fun a x na ha => ⟨k3 a x (fun z => na (.inl (R.ta a z).1)) ha, na⟩
                have hjl : j.toNat < ys.length := by
                  cases Nat.lt_or_ge j.toNat ys.length with
                  | inl z => exact z
                  | inr z => rw [List.getElem?_eq_none z] at hvx; cases hvx
                refine ⟨_, _, rfl, rfl, b, ys, j, j.toNat, rfl, rfl, hys3, ixN_nat hij.2 hjl, ?_⟩
                have hpb : p ≠ b := fun z => (List.nodup_cons.mp nd3).1 (by rw [z]; exact List.mem_of_getElem? hb)
                have hss : σ.set r (some (.ref p)) = σ := by
                  apply List.ext_getElem?
                  intro q
                  by_cases hq : r = q
                  · subst hq
                    have hl : r < σ.length := by
                      cases Nat.lt_or_ge r σ.length with
                      | inl z => exact z
                      | inr z => rw [List.getElem?_eq_none z] at hσ; cases hσ
                    rw [List.getElem?_set_self hl, hσ]
                  · rw [List.getElem?_set_ne hq]
                have fin : RS X.K Fz tau T0 (S.set r (some (.own2 (dss.set i.toNat (ds.set j.toNat (.int (g x y))))))) n' (σ.set r (some (.ref p))) (L2.upd H3 b (.lst (ys.set j.toNat (.int (g x y))))) ow := by
                  refine Rc.upd (fun c z hc hn => ?_) (fun c k _ => Iff.rfl) (fun c h => .inl h) (fun c h => ?_) ⟨p, bs3, rfl, ho3, nd3, hb3, ?_, by rw [List.length_set]; exact l3, ?_⟩
                  · rw [upd_ne (fun z => hn (by rw [z]; exact ob))]
                    exact hc
                  · by_cases hcb : c = b
                    · rw [hcb]; exact ⟨_, upd_same, trivial⟩
                    · rw [upd_ne hcb]; exact Rc.own c r h
                  · rw [upd_ne hpb]; exact hp3'
                  · exact rw3'.set (List.nodup_cons.mp nd3).2 hb (.inr ⟨r, ob⟩) (by rw [List.length_set]; exact ld') (rl3.set _ (.int _))
                rw [hss] at fin
                exact a σ _ ow fin
              · cases e
            · cases e
          · cases e
        · cases e
      · cases e
    · cases e
  · cases e


/-! ### y = x, x an own list that is not used any more under its old name -/
def sMove (i j : Nat) : FS := fun S n => match S[i]? with
  | some (some (.own ds)) => if i = j then none else some (.nx ((S.set i none).set j (some (.own ds))), n)
  | _ => none
theorem ms_move {X : Cx} {W : WX} {st : Stmt} {i j : Nat} (h : PS X st (tAsg (tVar i) (gName j))) : MS X W st (sMove i j) := by
  refine ps_imp h fun Dn σ H q => ?_
  obtain ⟨Fz, tau, T0, S, n, fl, n', ⟨o, R⟩, e, af⟩ := q
  unfold sMove at e
  split at e
  · rename_i ds hS
    split at e
    · cases e
    · rename_i hij
      cases e
      obtain ⟨v, hσ, p, xs, rfl, ho, hH, l, r⟩ := R.slot i _ hS
      refine ⟨_, hσ, ?_⟩
      refine af _ H (fun a => if o a = some i then some j else if o a = some j then none else o a) ?_
      have tsub : ∀ a, tOf T0 (fun a => if o a = some i then some j else if o a = some j then none else o a) a → tOf T0 o a := fun a z => by
        rcases z with z | ⟨k, z⟩
        · exact .inl z
        · dsimp only at z
          split at z
          · rename_i h1; exact .inr ⟨i, h1⟩
          · split at z
            · cases z
            · exact .inr ⟨k, z⟩
      refine ⟨fun a x h => ?_, fun a h => ?_, R.tin, fun a k hk => ?_, R.town, by rw [List.length_set, List.length_set, List.length_set]; exact R.len, fun k sv hk => ?_⟩
      · obtain ⟨q1, q2, q3⟩ := R.fz a x h
        refine ⟨q1, ?_, q3⟩
        rw [if_neg (by rw [q2]; exact fun z => nomatch z), if_neg (by rw [q2]; exact fun z => nomatch z)]
        exact q2
      · obtain ⟨q1, q2⟩ := R.ta a h
        refine ⟨q1, ?_⟩
        rw [if_neg (by rw [q2]; exact fun z => nomatch z), if_neg (by rw [q2]; exact fun z => nomatch z)]
        exact q2
      · rcases tsub a (.inr ⟨k, hk⟩) with z | ⟨k2, z⟩
        · exfalso
          split at hk
          · rename_i h1; exact R.own0 h1 z
          · split at hk
            · cases hk
            · exact R.own0 hk z
        · exact R.own a k2 z
      · by_cases hjk : j = k
        · subst hjk
          by_cases hl : j < S.length
          · rw [List.getElem?_set_self (by rw [List.length_set]; exact hl)] at hk
            cases hk
            exact ⟨_, List.getElem?_set_self (by rw [← R.len]; exact hl), p, xs, rfl, by dsimp only; rw [if_pos ho], hH, l, r.less tsub⟩
          · rw [List.getElem?_eq_none (by rw [List.length_set, List.length_set]; omega)] at hk
            cases hk
        · rw [List.getElem?_set_ne hjk] at hk ⊢
          by_cases hik : i = k
          · subst hik
            by_cases hl : i < S.length
            · rw [List.getElem?_set_self hl] at hk; cases hk
            · rw [List.getElem?_eq_none (by rw [List.length_set]; omega)] at hk; cases hk
          · rw [List.getElem?_set_ne hik] at hk
            obtain ⟨v, q1, q2⟩ := R.slot k sv hk
            refine ⟨v, q1, q2.move (fun a x na hx => ⟨hx, fun z => na (tsub a z)⟩) (fun a x _ hx => hx) fun a ha => ?_⟩
            rw [if_neg (by rw [ha]; exact fun z => hik (Option.some.inj z).symm), if_neg (by rw [ha]; exact fun z => hjk (Option.some.inj z).symm)]
            exact ha
  · cases e
theorem ms_mv {X : Cx} {W : WX} {e : Expr} {i j : Nat} {x : Str} {pos pos' : Pos} (hN : X.N.Nodup) (hi : X.N[j]? = some x) (hx : Loc X.env.scope x) (he : PE X e (tVar i)) (hs : swapsWith e (some (.Name x pos')) pos.line X.env = pure false := by rfl) (hf : X.fn x = true ∨ X.env.scope.names.lookup x = some .local := by first | exact .inl rfl | exact .inr rfl | assumption) :
    MS X W (.Assign [.Name x pos'] e pos) (sMove i j) := ms_move (ps_set hN hi hx he hs hf)
/-! ### x += e, ints -/
def sAug (i : Nat) (f : FE) (g : Int → Int → Int) : FS := fun S n => match S[i]? with
  | some (some (.val (.int x))) => (match f (frzE S) n with
    | some (.int y, n1) => some (.nx (S.set i (some (.val (.int (g x y))))), n1)
    | _ => none)
  | _ => none
theorem ms_aug {X : Cx} {W : WX} {st : Stmt} {i : Nat} {f : FE} {g : Int → Int → Int} (h : PS X st (tAug i (tM X.K f) (ipI g))) : MS X W st (sAug i f g) := by
  refine ps_imp h fun Dn σ H q => ?_
  obtain ⟨Fz, tau, T0, S, n, fl, n', ⟨o, R⟩, e, af⟩ := q
  unfold sAug at e
  split at e
  · rename_i x hS
    split at e
    · rename_i y n1 h1
      cases e
      obtain ⟨v, hσ, hv⟩ := R.slot i _ hS
      cases (show Rp X.K tau (tOf T0 o) H v (.int x) from hv)
      refine ⟨_, hσ, tM_run R.frz R.town h1 fun u H' k _ t r => ?_⟩
      cases r
      exact ⟨_, _, rfl, rfl, af _ _ _ ((R.keep k t).setVal (i := i) (.int _))⟩
    · cases e
  · cases e

/-! ### the law -/
def scrD (ns : List Int) : D := .dict [(.none, .list (ns.map .int))]
def townD : D := .dict []
def spLaw (K : PySem.W.Frag) : Sp := fun vs H Q _ => ∃ (a : Addr) (ns : List Int), vs = [.ref a] ∧ SqL K H a (ns.map V.int) ∧ ns.length ≤ 63 ∧ ∀ H', Q (.bl true) H'
section
variable {P : Program} {w : World} {K : PySem.W.Frag} {mg : Str → Option Value} {base : Heap} {x qual : Str} {params : Arguments} {st : Stmt} {body : List Stmt} {scope : Scope} {f : Addr} {fd : FuncData} {N : List Str} {k : Nat} {fb : FS}
/-- town = [] comes first; then the rest, which gives True -/
theorem law_mk (F : FunD K x qual params (st :: body) scope [] [] f fd) (S : FnScope N ["script"] scope) (hN : 2 ≤ N.length)
    (hst : ∀ (cdv : Value) (A : Around) (outer : List Env) (s : Shared) (H : Hp) (E : XK), PS (cxOf (L2.CX P w) P w K mg base N qual scope f cdv A outer s H E) st (tAsg (tLst tNil) (gName 1)))
    (hbody : ∀ (cdv : Value) (A : Around) (outer : List Env) (s : Shared) (H : Hp) (E : XK), Room k (A.deeper (envOfC qual scope s.heap.objs.size f cdv)) →
      MSs (cxOf (L2.CX P w) P w K mg base N qual scope f cdv A outer s H E) (fun cls d _ H => E cls d H) body fb)
    (hT : ∀ ns : List Int, ns.length ≤ 63 → ∃ n', fb (some (.val (scrD ns)) :: some (.val townD) :: List.replicate (N.length - 2) none) 0 = some (.rt (.bool true), n')) :
    FnOk P w K mg base (L2.CX P w) (k + 1) f fd ["script"] (spLaw K) := by
  refine F.ok S (fun vs H Q E h => ?_) fun cdv A outer s H vs Q E hr h => ⟨_, pss_cons (hst cdv A outer s H E) (hbody cdv A outer s H E hr), ?_⟩
  · obtain ⟨a, ns, rfl, _⟩ := h
    rfl
  · obtain ⟨a, ns, rfl, hS, hl, q⟩ := h
    obtain ⟨n', e⟩ := hT ns hl
    refine ⟨Nat.zero_le _, fun p hp => ?_⟩
    have sc : ScrAt K (fun b => b = p) (upd H p (.lst [])) a ns := by
      rcases hS with (h | ⟨o, h⟩) | h
      · exact .inl ⟨.inl (by rw [upd_ne (ne_of_none h hp)]; exact h), ne_of_none h hp⟩
      · exact .inl ⟨.inr ⟨o, by rw [upd_ne (ne_of_none h hp)]; exact h⟩, ne_of_none h hp⟩
      · exact .inr h
    refine ⟨H, some p, fun b => b = p, _, 0, _, n', ⟨fun _ => none, ?_⟩, e, fun v H' _ _ r => ?_⟩
    · refine ⟨fun b y hb => ⟨by rw [upd_ne (ne_of_none hb hp)]; exact hb, rfl, fun z => by cases z; rw [hp] at hb; cases hb⟩, fun b hb => ⟨(Option.some.inj hb).symm, rfl⟩, fun b hb => .inr (by rw [hb]), fun b j h => (by cases h), fun b hb => ?_, ?_, fun i sv hi => ?_⟩
      · cases hb
        exact upd_same
      · show _ = ((L2.start N [.ref a]).set 1 (some (.ref p))).length
        unfold L2.start
        rw [List.length_set, List.length_append]
        simp
        omega
      · have hlen : ([some (.ref a)] ++ List.replicate (N.length - 1) none : L2.St) = some (.ref a) :: none :: List.replicate (N.length - 2) none := by
          obtain ⟨m, hm⟩ : ∃ m, N.length = m + 2 := ⟨N.length - 2, by omega⟩
          rw [hm]
          rfl
        have hσ : (L2.start N [.ref a]).set 1 (some (.ref p)) = some (.ref a) :: some (.ref p) :: List.replicate (N.length - 2) none := by
          show ([some (.ref a)] ++ List.replicate (N.length - 1) none : L2.St).set 1 (some (.ref p)) = _
          rw [hlen]
          rfl
        rw [hσ]
        cases i with
        | zero =>
          cases hi
          refine ⟨_, rfl, ?_⟩
          have tt : ∀ b, tOf (fun b => b = p) (fun _ => none) b → b = p := fun b z => z.elim id fun ⟨_, y⟩ => nomatch y
          refine Rp.less (T := fun b => b = p) tt (.scr sc hl)
        | succ i =>
          cases i with
          | zero =>
            cases hi
            exact ⟨_, rfl, .town rfl⟩
          | succ i =>
            have h2 : (List.replicate (N.length - 2) (none : Option SV))[i]? = some (some sv) := hi
            rw [List.getElem?_replicate] at h2
            split at h2 <;> cases h2
    · cases r
      exact q H'
end
/-- a def as it stands behind the top -/
theorem has_mk {P : Program} {w : World} {K : PySem.W.Frag} {mg : Str → Option Value} {base : Heap} {x qual : Str} {params : Arguments} {body : List Stmt} {scope : Scope} {f : Addr} {fd : FuncData} {ps : List Str} {k ar : Nat} {fr : Bool} {m : Fn}
    (F : FunD K x qual params body scope [] [] f fd) (g : mg x = some (.ref f)) (G : FnOk P w K mg base (L2.CX P w) k f fd ps (spX K mg ar fr m)) (b : Binds K fd ps []) : Has P w K mg base x k ar fr m := ⟨f, fd, ps, G, g, F.kp, b⟩
/-- the built-in names are free -/
structure Bt (mg : Str → Option Value) : Prop where
  len : mg "len" = none
  min : mg "min" = none
  max : mg "max" = none
  sum : mg "sum" = none
  range : mg "range" = none
  zip : mg "zip" = none
  enumerate : mg "enumerate" = none
  sorted : mg "sorted" = none
  set : mg "set" = none
  list : mg "list" = none
  tuple : mg "tuple" = none
  isinstance : mg "isinstance" = none
  all : mg "all" = none
  any : mg "any" = none
  int : mg "int" = none
  bool : mg "bool" = none
  str : mg "str" = none
  dict : mg "dict" = none

theorem me_globI' {X : Cx} {x : Str} {i : Int} {pos : Pos} (hg : Gl X x) (hm : ∃ t, X.mg x = some (.int i t)) (hd : (x == ("__debug__" : Str)) = false := by decide) : ME X (.Name x pos) (eC (.int i)) := let ⟨t, h⟩ := hm; me_globI hg h ⟨t, rfl⟩ hd
theorem me_globS' {X : Cx} {x z : Str} {pos : Pos} (hg : Gl X x) (hm : ∃ t, X.mg x = some (.str z t)) (hz : z.length ≤ sizeLine := by decide) (hd : (x == ("__debug__" : Str)) = false := by decide) : ME X (.Name x pos) (eC (.str z)) := let ⟨t, h⟩ := hm; me_globS hg h ⟨t, rfl⟩ hz hd
theorem bb_len : bootBuiltins "len" = some (.builtin "len") := by decide +kernel
theorem bb_min : bootBuiltins "min" = some (.builtin "min") := by decide +kernel
theorem bb_max : bootBuiltins "max" = some (.builtin "max") := by decide +kernel
theorem bb_sum : bootBuiltins "sum" = some (.builtin "sum") := by decide +kernel
theorem bb_all : bootBuiltins "all" = some (.builtin "all") := by decide +kernel
theorem bb_any : bootBuiltins "any" = some (.builtin "any") := by decide +kernel
theorem bb_sorted : bootBuiltins "sorted" = some (.builtin "sorted") := by decide +kernel
theorem bb_list : bootBuiltins "list" = some (.type "list") := by decide +kernel
theorem bb_tuple : bootBuiltins "tuple" = some (.type "tuple") := by decide +kernel
theorem bb_int : bootBuiltins "int" = some (.type "int") := by decide +kernel
theorem bb_bool : bootBuiltins "bool" = some (.type "bool") := by decide +kernel
theorem bb_str : bootBuiltins "str" = some (.type "str") := by decide +kernel
theorem _root_.L2.Room.u65 {k : Nat} {A : PySem.Around} (r : L2.Room k A) : A.units + 65 < PySem.cLine := by have := r.un; omega

/-! ### the rules with side conditions left to the kernel -/
def visB (sc : Scope) (x : Str) : Bool := match sc.names.lookup x with
  | some .local => true
  | some .cell => true
  | some .free => true
  | _ => false
def locB (sc : Scope) (x : Str) : Bool := match sc.names.lookup x with
  | some .local => true
  | some .cell => true
  | _ => false
def lclB (sc : Scope) (x : Str) : Bool := match sc.names.lookup x with
  | some .local => true
  | _ => false
theorem vis_of {sc : Scope} {x : Str} (h : visB sc x = true) : Vis sc x := by
  unfold visB at h
  split at h
  · exact .inl (by assumption)
  · exact .inr (.inl (by assumption))
  · exact .inr (.inr (by assumption))
  · cases h
theorem loc_of {sc : Scope} {x : Str} (h : locB sc x = true) : Loc sc x := by
  unfold locB at h
  split at h
  · exact .inl (by assumption)
  · exact .inr (by assumption)
  · cases h
theorem lcl_of {sc : Scope} {x : Str} (h : lclB sc x = true) : sc.names.lookup x = some .local := by
  unfold lclB at h
  split at h
  · assumption
  · cases h
theorem fn_of' {X : Cx} {x : Str} (h : (X.fn x || lclB X.env.scope x) = true) : X.fn x = true ∨ X.env.scope.names.lookup x = some .local := by
  rw [Bool.or_eq_true] at h
  exact h.imp id lcl_of
section
variable {X : Cx} {W : WX} {e a b c : Expr} {es : List Expr} {pos pos' p : Pos} {f g h : FE} {fs : Fe (List D)} {x : Str} {i j k ar : Nat} {fr : Bool} {m : Fn}
theorem kpv (i : Nat) {x : Str} {pos : Pos} (hN : X.N[i]? = some x := by kernel_rfl) (hv : visB X.env.scope x = true := by kernel_rfl) (hd : (x == ("__debug__" : Str)) = false := by kernel_rfl) (hcd : (x == ("__classdict__" : Str)) = false := by kernel_rfl) : PE X (.Name x pos) (tVar i) := pe_var hN (vis_of hv) hd hcd
theorem kvar (i : Nat) {x : Str} {pos : Pos} (hN : X.N[i]? = some x := by kernel_rfl) (hv : visB X.env.scope x = true := by kernel_rfl) (hd : (x == ("__debug__" : Str)) = false := by kernel_rfl) (hcd : (x == ("__classdict__" : Str)) = false := by kernel_rfl) : ME X (.Name x pos) (eVar i) := me_var i (pe_var hN (vis_of hv) hd hcd)
theorem kstr {x : Str} {j pos} (hx : Nat.ble x.length sizeLine = true := by kernel_rfl) : ME X (.Constant (.str x) j pos) (eC (.str x)) := me_str (Nat.le_of_ble_eq_true hx)
theorem kglobI {i : Int} (hm : ∃ t, X.mg x = some (.int i t)) (hg : X.env.kindOf x = some .globalImplicit := by kernel_rfl) (hd : (x == ("__debug__" : Str)) = false := by kernel_rfl) : ME X (.Name x pos) (eC (.int i)) := me_globI' hg hm hd
theorem kglobS {z : Str} (hm : ∃ t, X.mg x = some (.str z t)) (hg : X.env.kindOf x = some .globalImplicit := by kernel_rfl) (hz : Nat.ble z.length sizeLine = true := by kernel_rfl) (hd : (x == ("__debug__" : Str)) = false := by kernel_rfl) : ME X (.Name x pos) (eC (.str z)) := me_globS' hg hm (Nat.le_of_ble_eq_true hz) hd
theorem kcmp {op : CmpOp} {r : R2} {F : D → D → Option D} (ho : OpR X (compareOp op) r) (hF : Ok2 X.K r F) (ha : ME X a f) (hb : ME X b g) (hm : behindInMarks op b = false := by kernel_rfl) : ME X (.Compare a [op] [b] pos) (e2 F f g) := me_cmp ho hF ha hb hm
theorem ktcmp {op : CmpOp} {r : R2} {F : D → D → Option D} (ho : OpR X (compareOp op) r) (hF : Ok2 X.K r F) (ha : ME X a f) (hb : ME X b g) (hm : behindInMarks op b = false := by kernel_rfl) : MT X (.Compare a [op] [b] pos) (bV (e2 F f g)) := mt_cmp ho hF ha hb hm
theorem kchain {op op' : CmpOp} {r r' : R2} {F G : D → D → Option D} (ho : OpR X (compareOp op) r) (ho' : OpR X (compareOp op') r') (hF : Ok2 X.K r F) (hG : Ok2 X.K r' G) (ha : ME X a f) (hb : ME X b g) (hc : ME X c h) (hm : lastMarks [op, op'] [b, c] = false := by kernel_rfl) : ME X (.Compare a [op, op'] [b, c] pos) (eChain F G f g h) := me_chain ho ho' hF hG ha hb hc hm
theorem ktchain {op op' : CmpOp} {r r' : R2} {F G : D → D → Option D} (ho : OpR X (compareOp op) r) (ho' : OpR X (compareOp op') r') (hF : Ok2 X.K r F) (hG : Ok2 X.K r' G) (ha : ME X a f) (hb : ME X b g) (hc : ME X c h) (hm : lastMarks [op, op'] [b, c] = false := by kernel_rfl) : MT X (.Compare a [op, op'] [b, c] pos) (bV (eChain F G f g h)) := mt_chain ho ho' hF hG ha hb hc hm
theorem kix {r : R2} {F : D → D → Option D} (hr : IxR X r) (hF : Ok2 X.K r F) (ha : ME X a f) (hb : ME X b g) (hs : ∀ o i, subscripted b false o i = operate [o, i] (getItem o i) := by intro _ _; kernel_rfl) : ME X (.Subscript a b pos) (e2 F f g) := me_ix hr hF ha hb hs
theorem ktval (he : ME X e f) (hp : ∀ whole, isTrue e X.env whole = (do let v ← whole; standAt e.pos; holding [v] (truthy v)) := by intro _; kernel_rfl) : MT X e (bV f) := mt_val he hp
theorem kacons (ha : ME X e f) (hr : MA X es fs) (hs : starEach (e :: es) X.env = (false, eval e X.env) :: starEach es X.env := by kernel_rfl) : MA X (e :: es) (aCons f fs) := ma_cons ha hr hs
theorem kcallB {id : String} {r : List V → Hp → VK → Prop} {F : List D → Option D} (hc : CallR X (.builtin id) r) (hF : OkL X.K r F) (hm : X.mg x = none) (hv : bootBuiltins x = some (.builtin id)) (ha : MA X (e :: es) fs) (hg : X.env.kindOf x = some .globalImplicit := by kernel_rfl)
    (hn : (x == ("__name__" : Str)) = false := by kernel_rfl) (hdb : (x == ("__debug__" : Str)) = false := by kernel_rfl) (he : starEach (e :: es) X.env = (false, eval e X.env) :: starEach es X.env := by kernel_rfl) (hpl : (backTo pos (starEach es X.env)).any (·.1) = false := by kernel_rfl) :
    ME X (.Call (.Name x p) (e :: es) [] pos) (eL F fs) := me_callB hc hF hg hm hv ha (beq_eq_false_iff_ne.mp hn) hdb he hpl
theorem kcallTy {T : String} {r : List V → Hp → VK → Prop} {F : List D → Option D} (hc : CallR X (.type T) r) (hF : OkL X.K r F) (hm : X.mg x = none) (hv : bootBuiltins x = some (.type T)) (ha : MA X (e :: es) fs) (hg : X.env.kindOf x = some .globalImplicit := by kernel_rfl)
    (hn : (x == ("__name__" : Str)) = false := by kernel_rfl) (hdb : (x == ("__debug__" : Str)) = false := by kernel_rfl) (he : starEach (e :: es) X.env = (false, eval e X.env) :: starEach es X.env := by kernel_rfl) (hpl : (backTo pos (starEach es X.env)).any (·.1) = false := by kernel_rfl) :
    ME X (.Call (.Name x p) (e :: es) [] pos) (eL F fs) := me_callTy hc hF hg hm hv ha (beq_eq_false_iff_ne.mp hn) hdb he hpl
theorem ktyN {t : String} (hm : X.mg x = none) (hv : bootBuiltins x = some (.type t)) (hg : X.env.kindOf x = some .globalImplicit := by kernel_rfl) (hn : (x == ("__name__" : Str)) = false := by kernel_rfl) (hd : (x == ("__debug__" : Str)) = false := by kernel_rfl) : PE X (.Name x pos) (tC (.ty t)) := pe_tyN hg hm hv (beq_eq_false_iff_ne.mp hn) hd
theorem kisi {eT : Expr} {t : String} (k : KitOk t) (hm : X.mg "isinstance" = none) (he : ME X e f) (hT : PE X eT (tC (.ty t))) (hg : X.env.kindOf "isinstance" = some .globalImplicit := by kernel_rfl)
    (hs : starEach [e, eT] X.env = (false, eval e X.env) :: starEach [eT] X.env := by kernel_rfl) (hs2 : starEach [eT] X.env = (false, eval eT X.env) :: starEach [] X.env := by kernel_rfl) (hpl : (backTo pos (starEach [eT] X.env)).any (·.1) = false := by kernel_rfl) :
    ME X (.Call (.Name "isinstance" p) [e, eT] [] pos) (e1 (dIsi t) f) := me_isi k hg hm he hT hs hs2 hpl
theorem kcall (hh : Has X.prog X.w X.K X.mg X.base x k ar fr m) (hl : ∀ ds n, ds.length ≠ ar → m ds n = none) (hr : Room j X.A) (ha : MA X (e :: es) fs) (hk : Nat.ble k j = true := by kernel_rfl) (hg : X.env.kindOf x = some .globalImplicit := by kernel_rfl)
    (hdb : (x == ("__debug__" : Str)) = false := by kernel_rfl) (he : starEach (e :: es) X.env = (false, eval e X.env) :: starEach es X.env := by kernel_rfl) (hpl : (backTo pos (starEach es X.env)).any (·.1) = false := by kernel_rfl) :
    ME X (.Call (.Name x p) (e :: es) [] pos) (eCall m fs) := me_call hh hl hr (Nat.le_of_ble_eq_true hk) hg ha hdb he hpl
theorem kcallF (hh : Has X.prog X.w X.K X.mg X.base x k ar true m) (hl : ∀ ds n, ds.length ≠ ar → m ds n = none) (hr : Room j X.A) (ha : MA X (e :: es) fs) (hk : Nat.ble k j = true := by kernel_rfl) (hg : X.env.kindOf x = some .globalImplicit := by kernel_rfl)
    (hdb : (x == ("__debug__" : Str)) = false := by kernel_rfl) (he : starEach (e :: es) X.env = (false, eval e X.env) :: starEach es X.env := by kernel_rfl) (hpl : (backTo pos (starEach es X.env)).any (·.1) = false := by kernel_rfl) :
    MF X (.Call (.Name x p) (e :: es) [] pos) (eCallL m fs) := me_callF hh hl hr (Nat.le_of_ble_eq_true hk) hg ha hdb he hpl
theorem kflist (hm : X.mg "list" = none) (ha : MA X [e] fs) (hg : X.env.kindOf "list" = some .globalImplicit := by kernel_rfl) (he : starEach [e] X.env = (false, eval e X.env) :: starEach [] X.env := by kernel_rfl) (hpl : (backTo pos (starEach [] X.env)).any (·.1) = false := by kernel_rfl) : MF X (.Call (.Name "list" p) [e] [] pos) (aSeq fs) := mf_list hg hm ha he hpl
theorem klenTown (i : Nat) (hm : X.mg "len" = none) (he : PE X e (tVar i)) (hg : X.env.kindOf "len" = some .globalImplicit := by kernel_rfl) (hs : starEach [e] X.env = (false, eval e X.env) :: starEach [] X.env := by kernel_rfl) (hpl : (backTo pos (starEach [] X.env)).any (·.1) = false := by kernel_rfl) :
    ME X (.Call (.Name "len" p) [e] [] pos) (eTown i) := me_lenTown hg hm he hs hpl
/-! what is walked -/
variable {tg iter : Expr}
theorem krange1 (hm : X.mg "range" = none) (ha : MA X [e] fs) (hg : X.env.kindOf "range" = some .globalImplicit := by kernel_rfl) (hs : starEach [e] X.env = [(false, eval e X.env)] := by kernel_rfl) : MI X tg (.Call (.Name "range" p) [e] [] pos) (iR1 fs) := mi_range1 hg hm ha hs
theorem krange2 {e2 : Expr} (hm : X.mg "range" = none) (ha : MA X [e, e2] fs) (hg : X.env.kindOf "range" = some .globalImplicit := by kernel_rfl) (hs : starEach [e, e2] X.env = [(false, eval e X.env), (false, eval e2 X.env)] := by kernel_rfl) (hs2 : starEach [e2] X.env = [(false, eval e2 X.env)] := by kernel_rfl) : MI X tg (.Call (.Name "range" p) [e, e2] [] pos) (iR2 fs) := mi_range2 hg hm ha hs hs2
theorem kname (i : Nat) (hN : X.N.Nodup) (hi : X.N[i]? = some x := by kernel_rfl) (hx : locB X.env.scope x = true := by kernel_rfl) (hf : (X.fn x || lclB X.env.scope x) = true := by kernel_rfl) : MG X (.Name x pos) (.nm i) := pg_name hN hi (loc_of hx) (fn_of' hf)
theorem ktup2 {x y : Str} {px py : Pos} {q : Nat} (i j : Nat) (hN : X.N.Nodup) (hi : X.N[i]? = some x := by kernel_rfl) (hx : locB X.env.scope x = true := by kernel_rfl) (hf : (X.fn x || lclB X.env.scope x) = true := by kernel_rfl)
    (hj : X.N[j]? = some y := by kernel_rfl) (hy : locB X.env.scope y = true := by kernel_rfl) (hfy : (X.fn y || lclB X.env.scope y) = true := by kernel_rfl) (hc : X.calm = true := by kernel_rfl)
    (hn : (assignEach [.Name x px, .Name y py] X.env).length = 2 := by kernel_rfl) (hst : (assignEach [.Name x px, .Name y py] X.env).findIdx? (·.1) = none := by kernel_rfl) : MG X (.Tuple [.Name x px, .Name y py] q pos) (.tp [i, j]) :=
  pg_tup hc (pgs_cons (pg_name hN hi (loc_of hx) (fn_of' hf)) (pgs_cons (pg_name hN hj (loc_of hy) (fn_of' hfy)) pgs_nil)) hn hst
theorem klc {elt : Expr} {ifs : List Expr} {scope : Scope} (own : List (Str × Nat)) {fi : Fe (List D)} {t : Tg} {ft : Fe Bool} {fe : FE} (hN : X.N.Nodup) (hi : MI X tg iter fi)
    (hg : ∀ (s : Shared) (H : Hp) (C : Addr) (cl : List (Str × Addr)) (fp : List Addr), MG (X.blk s H scope (compEnvC scope cl C X.env) fp) tg t) (ht : ∀ (s : Shared) (H : Hp) (C : Addr) (cl : List (Str × Addr)) (fp : List Addr), MTs (X.blk s H scope (compEnvC scope cl C X.env) fp) ifs ft)
    (he : ∀ (s : Shared) (H : Hp) (C : Addr) (cl : List (Str × Addr)) (fp : List Addr), ME (X.blk s H scope (compEnvC scope cl C X.env) fp) elt fe) (hc : X.calm = true := by kernel_rfl) (ok : blkC X.N X.env.scope scope own = true := by kernel_rfl)
    (hsl : (t.slots.all fun i => (own.map (·.2)).contains i) = true := by kernel_rfl) (hs : ∀ x, foldedSetIterable iter X.env x = pure x := by intro _; kernel_rfl) :
    MF X (.ListComp elt [⟨tg, iter, ifs, 0⟩] scope pos) (eLc (own.map (·.2)) fi t ft fe) :=
  me_lcF hc hN hi (blkOk_by ok) hg ht he (fun i hi => by simpa using List.all_eq_true.mp hsl i hi) hs
/-! statements -/
theorem kset (i : Nat) (hN : X.N.Nodup) (he : ME X e f) (hi : X.N[i]? = some x := by kernel_rfl) (hx : locB X.env.scope x = true := by kernel_rfl) (hs : swapsWith e (some (.Name x pos')) pos.line X.env = pure false := by kernel_rfl) (hf : (X.fn x || lclB X.env.scope x) = true := by kernel_rfl) :
    MS X W (.Assign [.Name x pos'] e pos) (sSet i f) := ms_set hN hi (loc_of hx) he hs (fn_of' hf)
theorem ksetH (i : Nat) (hN : X.N.Nodup) (he : ME X e f) (hi : X.N[i]? = some x := by kernel_rfl) (hx : locB X.env.scope x = true := by kernel_rfl) (hs : swapsWith e (some (.Name x pos')) pos.line X.env = pure false := by kernel_rfl) (hf : (X.fn x || lclB X.env.scope x) = true := by kernel_rfl) :
    MS X W (.Assign [.Name x pos'] e pos) (sSetH i f) := ms_setH hN hi (loc_of hx) he hs (fn_of' hf)
theorem ksetO (i : Nat) (hN : X.N.Nodup) (he : MF X e fs) (hi : X.N[i]? = some x := by kernel_rfl) (hx : locB X.env.scope x = true := by kernel_rfl) (hs : swapsWith e (some (.Name x pos')) pos.line X.env = pure false := by kernel_rfl) (hf : (X.fn x || lclB X.env.scope x) = true := by kernel_rfl) :
    MS X W (.Assign [.Name x pos'] e pos) (sOwn i fs) := ms_setO hN hi (loc_of hx) he hs (fn_of' hf)
theorem ksetOH (i : Nat) (hN : X.N.Nodup) (he : MF X e fs) (hi : X.N[i]? = some x := by kernel_rfl) (hx : locB X.env.scope x = true := by kernel_rfl) (hs : swapsWith e (some (.Name x pos')) pos.line X.env = pure false := by kernel_rfl) (hf : (X.fn x || lclB X.env.scope x) = true := by kernel_rfl) :
    MS X W (.Assign [.Name x pos'] e pos) (sOwnH i fs) := ms_setOH hN hi (loc_of hx) he hs (fn_of' hf)
theorem kmv (i j : Nat) (hN : X.N.Nodup) (he : PE X e (tVar i)) (hi : X.N[j]? = some x := by kernel_rfl) (hx : locB X.env.scope x = true := by kernel_rfl) (hs : swapsWith e (some (.Name x pos')) pos.line X.env = pure false := by kernel_rfl) (hf : (X.fn x || lclB X.env.scope x) = true := by kernel_rfl) :
    MS X W (.Assign [.Name x pos'] e pos) (sMove i j) := ms_mv hN hi (loc_of hx) he hs (fn_of' hf)
/-- x = [..], x a plain local | a cell -/
theorem ksetLc (i : Nat) {y : Str} {py : Pos} {elt : Expr} {ifs : List Expr} {scope : Scope} (own : List (Str × Nat)) {spos : Pos} {fi : Fe (List D)} {t : Tg} {ft : Fe Bool} {fe : FE} (hN : X.N.Nodup) (hi : MI X tg iter fi)
    (hg : ∀ (s : Shared) (H : Hp) (C : Addr) (cl : List (Str × Addr)) (fp : List Addr), MG (X.blk s H scope (compEnvC scope cl C X.env) fp) tg t) (ht : ∀ (s : Shared) (H : Hp) (C : Addr) (cl : List (Str × Addr)) (fp : List Addr), MTs (X.blk s H scope (compEnvC scope cl C X.env) fp) ifs ft)
    (he : ∀ (s : Shared) (H : Hp) (C : Addr) (cl : List (Str × Addr)) (fp : List Addr), ME (X.blk s H scope (compEnvC scope cl C X.env) fp) elt fe) (hy : X.N[i]? = some y := by kernel_rfl) (hyl : lclB X.env.scope y = true := by kernel_rfl) (hk : X.env.scope.kind = .function := by kernel_rfl) (hln : (py.line == pos.line) = true := by kernel_rfl)
    (hnm : (scope.names.any fun (n, k) => n == y && (k == .local || k == .cell)) = false := by kernel_rfl) (hc : X.calm = true := by kernel_rfl) (ok : blkC X.N X.env.scope scope own = true := by kernel_rfl)
    (hsl : (t.slots.all fun i => (own.map (·.2)).contains i) = true := by kernel_rfl) (hs : ∀ x, foldedSetIterable iter X.env x = pure x := by intro _; kernel_rfl) :
    PS X (.Assign [.Name y py] (.ListComp elt [⟨tg, iter, ifs, 0⟩] scope pos) spos) (tAsg (tMF X.K (eLc (own.map (·.2)) fi t ft fe)) (gName i)) :=
  ps_setLcF hc hN hy (lcl_of hyl) (sw_true hk (lcl_of hyl) hln hnm) hi (blkOk_by ok) hg ht he (fun i hi => by simpa using List.all_eq_true.mp hsl i hi) hs
theorem ksetLcC (i : Nat) (hN : X.N.Nodup) (he : MF X e fs) (hi : X.N[i]? = some x := by kernel_rfl) (hx : locB X.env.scope x = true := by kernel_rfl) (hs : swapsWith e (some (.Name x pos')) pos.line X.env = pure false := by kernel_rfl) (hf : (X.fn x || lclB X.env.scope x) = true := by kernel_rfl) :
    PS X (.Assign [.Name x pos'] e pos) (tAsg (tMF X.K fs) (gName i)) := ps_set hN hi (loc_of hx) he hs (fn_of' hf)
theorem ksetLc2 (i : Nat) {y : Str} {py : Pos} {elt : Expr} {scope : Scope} (own : List (Str × Nat)) {spos : Pos} {fi : Fe (List D)} {t : Tg} {fe : Fe (List D)} (hN : X.N.Nodup) (hi : MI X tg iter fi)
    (hg : ∀ (s : Shared) (H : Hp) (C : Addr) (cl : List (Str × Addr)) (fp : List Addr), MG (X.blk s H scope (compEnvC scope cl C X.env) fp) tg t)
    (he : ∀ (s : Shared) (H : Hp) (C : Addr) (cl : List (Str × Addr)) (fp : List Addr), MF (X.blk s H scope (compEnvC scope cl C X.env) fp) elt fe) (hy : X.N[i]? = some y := by kernel_rfl) (hyl : lclB X.env.scope y = true := by kernel_rfl) (hk : X.env.scope.kind = .function := by kernel_rfl) (hln : (py.line == pos.line) = true := by kernel_rfl)
    (hnm : (scope.names.any fun (n, k) => n == y && (k == .local || k == .cell)) = false := by kernel_rfl) (hc : X.calm = true := by kernel_rfl) (ok : blkC X.N X.env.scope scope own = true := by kernel_rfl)
    (hsl : (t.slots.all fun i => (own.map (·.2)).contains i) = true := by kernel_rfl) (hs : ∀ x, foldedSetIterable iter X.env x = pure x := by intro _; kernel_rfl) :
    PS X (.Assign [.Name y py] (.ListComp elt [⟨tg, iter, [], 0⟩] scope pos) spos) (tAsg (tMF2 X.K (eLc2 (own.map (·.2)) fi t fe)) (gName i)) :=
  ps_setLc2F hc hN hy (lcl_of hyl) (sw_true hk (lcl_of hyl) hln hnm) hi (blkOk_by ok) hg he (fun i hi => by simpa using List.all_eq_true.mp hsl i hi) hs
theorem ksetLc2C (i : Nat) {y : Str} {py : Pos} {elt : Expr} {scope : Scope} (own : List (Str × Nat)) {spos : Pos} {fi : Fe (List D)} {t : Tg} {fe : Fe (List D)} (hN : X.N.Nodup) (hi : MI X tg iter fi)
    (hg : ∀ (s : Shared) (H : Hp) (C : Addr) (cl : List (Str × Addr)) (fp : List Addr), MG (X.blk s H scope (compEnvC scope cl C X.env) fp) tg t)
    (he : ∀ (s : Shared) (H : Hp) (C : Addr) (cl : List (Str × Addr)) (fp : List Addr), MF (X.blk s H scope (compEnvC scope cl C X.env) fp) elt fe) (hy : X.N[i]? = some y := by kernel_rfl) (hyl : locB X.env.scope y = true := by kernel_rfl)
    (hsw : swapsWith (.ListComp elt [⟨tg, iter, [], 0⟩] scope pos) (some (.Name y py)) spos.line X.env = pure false := by kernel_rfl) (hc : X.calm = true := by kernel_rfl) (ok : blkC X.N X.env.scope scope own = true := by kernel_rfl)
    (hsl : (t.slots.all fun i => (own.map (·.2)).contains i) = true := by kernel_rfl) (hs : ∀ x, foldedSetIterable iter X.env x = pure x := by intro _; kernel_rfl) (hf : (X.fn y || lclB X.env.scope y) = true := by kernel_rfl) :
    PS X (.Assign [.Name y py] (.ListComp elt [⟨tg, iter, [], 0⟩] scope pos) spos) (tAsg (tMF2 X.K (eLc2 (own.map (·.2)) fi t fe)) (gName i)) :=
  ps_setLc2C hc hN hy (loc_of hyl) hsw hi (blkOk_by ok) hg he (fun i hi => by simpa using List.all_eq_true.mp hsl i hi) hs (fn_of' hf)
theorem kaug (i : Nat) {op : Operator} {g : Int → Int → Int} (hN : X.N.Nodup) (he : ME X e f) (ho : PIp X op (ipI g)) (hi : X.N[i]? = some x := by kernel_rfl) (hx : locB X.env.scope x = true := by kernel_rfl) (hf : (X.fn x || lclB X.env.scope x) = true := by kernel_rfl) : MS X W (.AugAssign (.Name x pos') op e pos) (sAug i f g) := ms_aug (ps_aug hN hi (loc_of hx) he ho (fn_of' hf))
theorem kaug2 (r : Nat) {o i er : Expr} {fi fj fe : FE} {g : Int → Int → Int} {op : Operator} {tpos p2 : Pos} (ho : PE X er (tVar r)) (hi : ME X o fi) (hj : ME X i fj) (he : ME X e fe) (hp : PIp X op (ipI g)) (hs : ∀ o' i', subscripted o false o' i' = operate [o', i'] (getItem o' i') := by intro _ _; kernel_rfl)
    (ha : ∀ ov iv new, augStore i ov iv new = (do holding [new, ov, iv] (setItem ov iv new); release [new, ov, iv] []; pure .next) := by intro _ _ _; kernel_rfl) :
    MS X W (.AugAssign (.Subscript (.Subscript er o p2) i tpos) op e pos) (sAug2 r fi fj fe g) := ms_aug2 ho hi hj he hp hs ha
theorem kfor {body : List Stmt} {fb : FS} {fi : Fe (List D)} (t : Tg) (hp : PassesOwn (model X.prog X.w) X.A X.env X.xe) (hi : MI X tg iter fi) (hg : MG X tg t) (hb : MSs X W body fb) (hc : X.calm = true := by kernel_rfl) (hs : ∀ x, foldedSetIterable iter X.env x = pure x := by intro _; kernel_rfl) :
    MS X W (.For tg iter body [] pos) (sFor fi t fb) := ms_for hp hc hi hg hb hs
theorem kcallS (hh : Has X.prog X.w X.K X.mg X.base x k ar fr m) (hl : ∀ ds n, ds.length ≠ ar → m ds n = none) (hr : Room j X.A) (tk : Takes X W) (ha : MA X (e :: es) fs) (hk : Nat.ble k j = true := by kernel_rfl) (hg : X.env.kindOf x = some .globalImplicit := by kernel_rfl)
    (hs : swapsWith (.Call (.Name x p) (e :: es) [] pos) none pos'.line X.env = pure false := by kernel_rfl) (hdb : (x == ("__debug__" : Str)) = false := by kernel_rfl) (he : starEach (e :: es) X.env = (false, eval e X.env) :: starEach es X.env := by kernel_rfl) (hpl : (backTo pos (starEach es X.env)).any (·.1) = false := by kernel_rfl) :
    MS X W (.Expr (.Call (.Name x p) (e :: es) [] pos) pos') (sCallX m fs) := ms_callS hh hl hr (Nat.le_of_ble_eq_true hk) tk hg ha hs hdb he hpl
theorem kretS (hh : Has X.prog X.w X.K X.mg X.base x k ar fr m) (hl : ∀ ds n, ds.length ≠ ar → m ds n = none) (hr : Room j X.A) (tk : Takes X W) (ha : MA X (e :: es) fs) (hk : Nat.ble k j = true := by kernel_rfl) (hg : X.env.kindOf x = some .globalImplicit := by kernel_rfl)
    (hdb : (x == ("__debug__" : Str)) = false := by kernel_rfl) (he : starEach (e :: es) X.env = (false, eval e X.env) :: starEach es X.env := by kernel_rfl) (hpl : (backTo pos (starEach es X.env)).any (·.1) = false := by kernel_rfl) :
    MS X W (.Return (some (.Call (.Name x p) (e :: es) [] pos)) pos') (sRetX m fs) := ms_retS hh hl hr (Nat.le_of_ble_eq_true hk) tk hg ha hdb he hpl
theorem kraise {c m : Str} {j : Nat} {p2 : Pos} (h : ExF X.K X.mg c) (tk : Takes X W) (hc : X.calm = true := by kernel_rfl) (hg : X.env.kindOf c = some .globalImplicit := by kernel_rfl) (hdb : (c == ("__debug__" : Str)) = false := by kernel_rfl) : MS X W (.Raise (some (.Call (.Name c p) [.Constant (.str m) j p2] [] pos)) none pos') (sRaise c) := ms_rs h hc tk hg hdb
theorem kappend (i : Nat) {cpos apos : Pos} (ho : PE X e (tVar i)) (he : ME X a f) (hb : attributeBase e "append" X.env (eval e X.env) = eval e X.env := by kernel_rfl)
    (hfew : ((backTo cpos (starEach [a] X.env)).all (fun x => !x.1) && (backToKw cpos (keywordEach [] X.env)).all (fun x => x.1.isSome) && decide ([a].length + ([] : List Keyword).length + (if ([] : List Keyword).isEmpty then 0 else 1) < 30)) = true := by kernel_rfl)
    (hline : (apos.endLine == cpos.line) = true := by kernel_rfl) (hs : starEach [a] X.env = (false, eval a X.env) :: starEach [] X.env := by kernel_rfl) (hpl : (backTo cpos (starEach [] X.env)).any (·.1) = false := by kernel_rfl) (hsw : swapsWith (.Call (.Attribute e "append" apos) [a] [] cpos) none pos.line X.env = pure false := by kernel_rfl) :
    PS X (.Expr (.Call (.Attribute e "append" apos) [a] [] cpos) pos) (tDrop (tBM X.K "list" rAppend (tVar i) (tCons (tM X.K f) tNil))) := ms_append ho he hb hfew hline hs hpl hsw
theorem kextend (i : Nat) {cpos apos : Pos} (ho : PE X e (tVar i)) (he : ME X a f) (hb : attributeBase e "extend" X.env (eval e X.env) = eval e X.env := by kernel_rfl)
    (hfew : ((backTo cpos (starEach [a] X.env)).all (fun x => !x.1) && (backToKw cpos (keywordEach [] X.env)).all (fun x => x.1.isSome) && decide ([a].length + ([] : List Keyword).length + (if ([] : List Keyword).isEmpty then 0 else 1) < 30)) = true := by kernel_rfl)
    (hline : (apos.endLine == cpos.line) = true := by kernel_rfl) (hs : starEach [a] X.env = (false, eval a X.env) :: starEach [] X.env := by kernel_rfl) (hpl : (backTo cpos (starEach [] X.env)).any (·.1) = false := by kernel_rfl) (hsw : swapsWith (.Call (.Attribute e "extend" apos) [a] [] cpos) none pos.line X.env = pure false := by kernel_rfl) :
    PS X (.Expr (.Call (.Attribute e "extend" apos) [a] [] cpos) pos) (tDrop (tBM X.K "list" rExtend (tVar i) (tCons (tM X.K f) tNil))) := ms_extend ho he hb hfew hline hs hpl hsw
theorem ktown (i : Nat) {j : Nat} {p2 cpos apos : Pos} (ho : PE X e (tVar i)) (hb : attributeBase e "append" X.env (eval e X.env) = eval e X.env := by kernel_rfl)
    (hfew : ((backTo cpos (starEach [.Constant (.int 0) j p2] X.env)).all (fun x => !x.1) && (backToKw cpos (keywordEach [] X.env)).all (fun x => x.1.isSome) && decide ([Expr.Constant (.int 0) j p2].length + ([] : List Keyword).length + (if ([] : List Keyword).isEmpty then 0 else 1) < 30)) = true := by kernel_rfl)
    (hline : (apos.endLine == cpos.line) = true := by kernel_rfl) (hs : starEach [.Constant (.int 0) j p2] X.env = (false, eval (.Constant (.int 0) j p2) X.env) :: starEach [] X.env := by kernel_rfl) (hpl : (backTo cpos (starEach [] X.env)).any (·.1) = false := by kernel_rfl) (hsw : swapsWith (.Call (.Attribute e "append" apos) [.Constant (.int 0) j p2] [] cpos) none pos.line X.env = pure false := by kernel_rfl) :
    MS X W (.Expr (.Call (.Attribute e "append" apos) [.Constant (.int 0) j p2] [] cpos) pos) (sTown i) :=
  ms_town (ps_expr (pe_bm PySem.F.plainAttrs_list PySem.F.slot_list_append PySem.F.type_list_append mt_append ho (pa_cons pe_int pa_nil hs) hb hfew hline hs hpl) hsw)
end
/-! ### defs -/
def fnScB (N P : List Str) (sc : Scope) : Bool :=
  (match sc.kind with | .function => true | _ => false) && !sc.isCoroutine && !sc.isGenerator && decide N.Nodup && decide (N.take P.length = P) && (P.all fun x => locB sc x) && (sc.names.all fun y => match y.2 with | .free => false | _ => true)
theorem fnSc {N P : List Str} {sc : Scope} (h : fnScB N P sc = true := by kernel_rfl) : FnScope N P sc := by
  unfold fnScB at h
  simp only [Bool.and_eq_true] at h
  obtain ⟨⟨⟨⟨⟨⟨h1, h2⟩, h3⟩, h4⟩, h5⟩, h6⟩, h7⟩ := h
  refine ⟨?_, by simpa using h2, by simpa using h3, of_decide_eq_true h4, of_decide_eq_true h5, fun x hx => loc_of (List.all_eq_true.mp h6 x hx), fun y hy z => ?_⟩
  · split at h1
    · assumption
    · cases h1
  · have := List.all_eq_true.mp h7 y hy
    rw [z] at this
    cases this
section
variable {P : Program} {w : World} {K : PySem.W.Frag} {mg : Str → Option Value} {base : Heap} {x qual : Str} {params : Arguments} {st : Stmt} {body : List Stmt} {scope : Scope} {f : Addr} {fd : FuncData} {N ps : List Str} {k ar : Nat} {fb : FS} {m : Fn}
theorem kfn (F : FunD K x qual params body scope [] [] f fd) (S : FnScope N ps scope)
    (hbody : ∀ (cdv : Value) (A : Around) (outer : List Env) (s : Shared) (H : Hp) (E : XK), Room k (A.deeper (envOfC qual scope s.heap.objs.size f cdv)) →
      Takes (cxOf (L2.CX P w) P w K mg base N qual scope f cdv A outer s H E) (fun cls d _ H => E cls d H) → PassesOwn (model P w) (A.deeper (envOfC qual scope s.heap.objs.size f cdv)) (envOfC qual scope s.heap.objs.size f cdv) (cxOf (L2.CX P w) P w K mg base N qual scope f cdv A outer s H E).xe →
      MSs (cxOf (L2.CX P w) P w K mg base N qual scope f cdv A outer s H E) (fun cls d _ H => E cls d H) body fb) (ha : ps.length = ar := by kernel_rfl) (hN : Nat.ble ar N.length = true := by kernel_rfl) (hm : m = mkF ar (N.length - ar) fb := by kernel_rfl) : FnOk P w K mg base (L2.CX P w) (k + 1) f fd ps (spX K mg ar false m) := by
  subst hm
  exact fn_mk F S ha (Nat.le_of_ble_eq_true hN) fun cdv A outer s H E hr => hbody cdv A outer s H E hr (takes_of rfl rfl rfl rfl) (passes_of rfl)
theorem kfnL (F : FunD K x qual params body scope [] [] f fd) (S : FnScope N ps scope)
    (hbody : ∀ (cdv : Value) (A : Around) (outer : List Env) (s : Shared) (H : Hp) (E : XK), Room k (A.deeper (envOfC qual scope s.heap.objs.size f cdv)) →
      Takes (cxOf (L2.CX P w) P w K mg base N qual scope f cdv A outer s H E) (fun cls d _ H => E cls d H) → PassesOwn (model P w) (A.deeper (envOfC qual scope s.heap.objs.size f cdv)) (envOfC qual scope s.heap.objs.size f cdv) (cxOf (L2.CX P w) P w K mg base N qual scope f cdv A outer s H E).xe →
      MSs (cxOf (L2.CX P w) P w K mg base N qual scope f cdv A outer s H E) (fun cls d _ H => E cls d H) body fb) (ha : ps.length = ar := by kernel_rfl) (hN : Nat.ble ar N.length = true := by kernel_rfl) (hm : m = mkL ar (N.length - ar) fb := by kernel_rfl) : FnOk P w K mg base (L2.CX P w) (k + 1) f fd ps (spX K mg ar true m) := by
  subst hm
  exact fn_mkL F S ha (Nat.le_of_ble_eq_true hN) fun cdv A outer s H E hr => hbody cdv A outer s H E hr (takes_of rfl rfl rfl rfl) (passes_of rfl)
theorem klaw (F : FunD K x qual params (st :: body) scope [] [] f fd) (S : FnScope N ["script"] scope)
    (hst : ∀ (cdv : Value) (A : Around) (outer : List Env) (s : Shared) (H : Hp) (E : XK), PS (cxOf (L2.CX P w) P w K mg base N qual scope f cdv A outer s H E) st (tAsg (tLst tNil) (gName 1)))
    (hbody : ∀ (cdv : Value) (A : Around) (outer : List Env) (s : Shared) (H : Hp) (E : XK), Room k (A.deeper (envOfC qual scope s.heap.objs.size f cdv)) →
      Takes (cxOf (L2.CX P w) P w K mg base N qual scope f cdv A outer s H E) (fun cls d _ H => E cls d H) → PassesOwn (model P w) (A.deeper (envOfC qual scope s.heap.objs.size f cdv)) (envOfC qual scope s.heap.objs.size f cdv) (cxOf (L2.CX P w) P w K mg base N qual scope f cdv A outer s H E).xe →
      MSs (cxOf (L2.CX P w) P w K mg base N qual scope f cdv A outer s H E) (fun cls d _ H => E cls d H) body fb)
    (hT : ∀ ns : List Int, ns.length ≤ 63 → ∃ n', fb (some (.val (scrD ns)) :: some (.val townD) :: List.replicate (N.length - 2) none) 0 = some (.rt (.bool true), n')) (hN : Nat.ble 2 N.length = true := by kernel_rfl) :
    FnOk P w K mg base (L2.CX P w) (k + 1) f fd ["script"] (spLaw K) :=
  law_mk F S (Nat.le_of_ble_eq_true hN) hst (fun cdv A outer s H E hr => hbody cdv A outer s H E hr (takes_of rfl rfl rfl rfl) (passes_of rfl)) hT
end
theorem ktown0 {X : Cx} {x : Str} {pos pos' p : Pos} (hN : X.N.Nodup) (hi : X.N[1]? = some x := by kernel_rfl) (hx : locB X.env.scope x = true := by kernel_rfl) (hs : swapsWith (.List [] p) (some (.Name x pos')) pos.line X.env = pure false := by kernel_rfl) (hf : (X.fn x || lclB X.env.scope x) = true := by kernel_rfl) :
    PS X (.Assign [.Name x pos'] (.List [] p) pos) (tAsg (tLst tNil) (gName 1)) := ps_set hN hi (loc_of hx) (pe_lst pa_nil) hs (fn_of' hf)
/-- the end of a law over a head by facts, the exceptions' shape by the world -/
theorem walk_ofW {l : PySem.W.OpenLaw} {n k : Nat} {q : Program} {loose : List Str} {XP : (Str → Option Value) → Heap → Prop} {YP : World → Heap → Prop} {d : DefRec} {CX : World → CXT} {x : Str}
    (hn : l.most = some n) (hn2 : n ≤ sizeLine) (hdf : d.params.defaults = []) (hr : Room k callerA)
    (F : ∀ (w : World) (mg : Str → Option Value) (fa : Addr) (h : Heap), YP w h → h.Ns mainGlobals mg → mg d.name = some (.ref fa) →
      ∃ (K : PySem.W.Frag) (fd : FuncData) (sp : Sp), K.In h ∧ (∀ (s : Shared) (u : Value), BindsTo s fd ⟨[u], []⟩ [(x, u)]) ∧
        (∀ (H : Hp) (a : Addr) (ns : List Int), ns.length ≤ n → Only H → SqL K H a (ns.map V.int) → sp [.ref a] H (fun v _ => v = .bl true) fun _ _ _ => False) ∧
        ∀ base : Heap, K.In base → base.Ns mainGlobals mg → FnOk l.prog w K mg base (CX w) k fa fd [x] sp)
    (hCX : ∀ (w : World) (H : Hp) (s : Shared) (e : Value) (s' : Shared), CX w [] H s (fun _ _ _ => False) e s' → False) :
    PySem.W.WalkO q loose XP YP l.row.toRowW d [] (fun f vs => PySem.call f vs) := by
  refine Att.attach_call hn hdf fun w s₀ s₁ mg mb fa o pm cd doc a vs ns G Y ho hd hcd hmg hobj hints hlen hg => ?_
  obtain ⟨K, fd, sp, KX, hb, hsp, hF⟩ := F w mg fa _ Y G.T.g hmg
  exact law_call KX G.T.g G.T.b G.T.builtins G.T.nolimit hg hobj hints (Nat.le_trans hlen hn2) hr hF hb (fun H hO hS => hsp H a ns hlen hO hS) fun H e s' => hCX w H s₁ e s'

/-! ### zip -/
def zipD (xs ys : List D) : List D := List.zipWith (fun x y => .tuple [x, y]) xs ys
def iZ (fs : Fe (List D)) : Fe (List D) := fun env n => match fs env n with
  | some ([.tuple xs, .tuple ys], n1) => some (zipD xs ys, n1)
  | some ([.list xs, .list ys], n1) => some (zipD xs ys, n1)
  | _ => none
theorem zipD_len (xs ys : List D) : (zipD xs ys).length = min xs.length ys.length := by unfold zipD; rw [List.length_zipWith]
theorem zipD_get {xs ys : List D} {i : Nat} {x y : D} (h1 : xs[i]? = some x) (h2 : ys[i]? = some y) : (zipD xs ys)[i]? = some (.tuple [x, y]) := by
  unfold zipD
  rw [List.getElem?_zipWith, h1, h2]
theorem rp_pair {K : PySem.W.Frag} {tau : Option Addr} {T : Addr → Prop} {H : Hp} {p : Addr} {x y : V} {a b : D} (c : Cok tau T H) (hp : H p = none) (h1 : Rp K tau T H x a) (h2 : Rp K tau T H y b) : Same H (upd H p (.tup [x, y])) ∧ Rp K tau T (upd H p (.tup [x, y])) (.ref p) (.tuple [a, b]) := by
  have s : Same H (upd H p (.tup [x, y])) := same_upd hp
  refine ⟨s, .tup upd_same (c.notIn hp) (by show 2 ≤ sizeLine; decide) (.cons (h1.same s c.tau) (.cons (h2.same s c.tau) .nil))⟩
theorem wk_zipT {K : PySem.W.Frag} {tau : Option Addr} {T : Addr → Prop} {H1 : Hp} {a b : Addr} {xs ys : List V} {ds es : List D} (h : H1 a = some (.tup xs)) (n : ¬ T a) (l : ds.length ≤ sizeLine) (r : RpL K tau T H1 xs ds)
    (h' : H1 b = some (.tup ys)) (n' : ¬ T b) (r' : RpL K tau T H1 ys es) : Wk K tau T (RZ.ItzT K a b) (zipD ds es) H1 := by
  refine ⟨by rw [zipD_len]; omega, fun T' H m c => ⟨fun i hi => ?_, ?_⟩⟩
  · rw [zipD_len] at hi
    obtain ⟨h2, n2⟩ := m a _ n h
    obtain ⟨h3, n3⟩ := m b _ n' h'
    have r2 : RpL K tau T' H xs ds := r.move m
    have r3 : RpL K tau T' H ys es := r'.move m
    obtain ⟨v, hv, rv⟩ := r2.get (List.getElem?_eq_getElem (show i < ds.length by omega))
    obtain ⟨u, hu, ru⟩ := r3.get (List.getElem?_eq_getElem (show i < es.length by omega))
    refine ⟨⟨xs, ys, v, u, SqT.of h2, SqT.of h3, hv, hu⟩, fun x H' y => ?_⟩
    obtain ⟨p, x1, y1, rfl, hp, rfl, f1, f2⟩ := y
    have e1 := f1 xs (SqT.of h2)
    have e2 := f2 ys (SqT.of h3)
    rw [hv] at e1
    rw [hu] at e2
    cases e1
    cases e2
    obtain ⟨s, q⟩ := rp_pair c hp rv ru
    exact ⟨s, _, zipD_get (List.getElem?_eq_getElem _) (List.getElem?_eq_getElem _), q⟩
  · obtain ⟨h2, n2⟩ := m a _ n h
    obtain ⟨h3, n3⟩ := m b _ n' h'
    refine ⟨xs, ys, SqT.of h2, SqT.of h3, ?_⟩
    rw [zipD_len, r.length, r'.length]
    omega
theorem wk_zipL {K : PySem.W.Frag} {tau : Option Addr} {T : Addr → Prop} {H1 : Hp} {a b : Addr} {xs ys : List V} {ds es : List D} (h : H1 a = some (.lst xs)) (n : ¬ T a) (l : ds.length ≤ sizeLine) (r : RpL K tau T H1 xs ds)
    (h' : H1 b = some (.lst ys)) (n' : ¬ T b) (r' : RpL K tau T H1 ys es) : Wk K tau T (L2.Itz K a b) (zipD ds es) H1 := by
  refine ⟨by rw [zipD_len]; omega, fun T' H m c => ⟨fun i hi => ?_, ?_⟩⟩
  · rw [zipD_len] at hi
    obtain ⟨h2, n2⟩ := m a _ n h
    obtain ⟨h3, n3⟩ := m b _ n' h'
    have r2 : RpL K tau T' H xs ds := r.move m
    have r3 : RpL K tau T' H ys es := r'.move m
    obtain ⟨v, hv, rv⟩ := r2.get (List.getElem?_eq_getElem (show i < ds.length by omega))
    obtain ⟨u, hu, ru⟩ := r3.get (List.getElem?_eq_getElem (show i < es.length by omega))
    refine ⟨⟨xs, ys, v, u, SqL.of h2, SqL.of h3, hv, hu⟩, fun x H' y => ?_⟩
    obtain ⟨p, x1, y1, rfl, hp, rfl, f1, f2⟩ := y
    have e1 := f1 xs (SqL.of h2)
    have e2 := f2 ys (SqL.of h3)
    rw [hv] at e1
    rw [hu] at e2
    cases e1
    cases e2
    obtain ⟨s, q⟩ := rp_pair c hp rv ru
    exact ⟨s, _, zipD_get (List.getElem?_eq_getElem _) (List.getElem?_eq_getElem _), q⟩
  · obtain ⟨h2, n2⟩ := m a _ n h
    obtain ⟨h3, n3⟩ := m b _ n' h'
    refine ⟨xs, ys, SqL.of h2, SqL.of h3, ?_⟩
    rw [zipD_len, r.length, r'.length]
    omega
theorem mi_zip {X : Cx} {e e2 : Expr} {fs : Fe (List D)} {p pos tpos : Pos} {elts : List Expr} {kk : Nat} (hg : Gl X "zip") (hm : X.mg "zip" = none) (ha : MA X [e, e2] fs)
    (hs : starEach [e, e2] X.env = (false, eval e X.env) :: starEach [e2] X.env) (hpl : (backTo pos (starEach [e2] X.env)).any (·.1) = false) :
    MI X (.Tuple elts kk tpos) (.Call (.Name "zip" p) [e, e2] [] pos) (iZ fs) := by
  refine pi_imp (RZ.pi_zipA hg hm ha hs hpl) fun σ H R q => ?_
  obtain ⟨tau, T, env, n, ds, n', RR, t, e, k⟩ := q
  unfold iZ at e
  split at e
  · rename_i xs ys n1 h1
    cases e
    refine tMA_run RR t h1 fun v H1 k1 R1 t1 r1 => ?_
    obtain ⟨u, u2, rfl, r2, r3⟩ := rpl2 r1
    cases r2 with
    | tup g1 m1 l1 q1 =>
      cases r3 with
      | tup g2 m2 l2 q2 => exact ⟨_, _, _, _, rfl, .inr ⟨SqT.of g1, SqT.of g2, k _ H1 k1 t1 (wk_zipT g1 m1 l1 q1 g2 m2 q2)⟩⟩
  · rename_i xs ys n1 h1
    cases e
    refine tMA_run RR t h1 fun v H1 k1 R1 t1 r1 => ?_
    obtain ⟨u, u2, rfl, r2, r3⟩ := rpl2 r1
    cases r2 with
    | lst g1 m1 l1 q1 =>
      cases r3 with
      | lst g2 m2 l2 q2 => exact ⟨_, _, _, _, rfl, .inl ⟨SqL.of g1, SqL.of g2, k _ H1 k1 t1 (wk_zipL g1 m1 l1 q1 g2 m2 q2)⟩⟩
  · cases e
theorem kzip {X : Cx} {e e2 : Expr} {fs : Fe (List D)} {p pos tpos : Pos} {elts : List Expr} {kk : Nat} (hm : X.mg "zip" = none) (ha : MA X [e, e2] fs) (hg : X.env.kindOf "zip" = some .globalImplicit := by kernel_rfl)
    (hs : starEach [e, e2] X.env = (false, eval e X.env) :: starEach [e2] X.env := by kernel_rfl) (hpl : (backTo pos (starEach [e2] X.env)).any (·.1) = false := by kernel_rfl) :
    MI X (.Tuple elts kk tpos) (.Call (.Name "zip" p) [e, e2] [] pos) (iZ fs) := mi_zip hg hm ha hs hpl
/-! ### three names -/
theorem ktup3 {X : Cx} {pos : Pos} {x y z : Str} {px py pz : Pos} {q : Nat} (i j k : Nat) (hN : X.N.Nodup) (hi : X.N[i]? = some x := by kernel_rfl) (hx : locB X.env.scope x = true := by kernel_rfl) (hf : (X.fn x || lclB X.env.scope x) = true := by kernel_rfl)
    (hj : X.N[j]? = some y := by kernel_rfl) (hy : locB X.env.scope y = true := by kernel_rfl) (hfy : (X.fn y || lclB X.env.scope y) = true := by kernel_rfl) (hk : X.N[k]? = some z := by kernel_rfl) (hz : locB X.env.scope z = true := by kernel_rfl) (hfz : (X.fn z || lclB X.env.scope z) = true := by kernel_rfl) (hc : X.calm = true := by kernel_rfl)
    (hn : (assignEach [.Name x px, .Name y py, .Name z pz] X.env).length = 3 := by kernel_rfl) (hst : (assignEach [.Name x px, .Name y py, .Name z pz] X.env).findIdx? (·.1) = none := by kernel_rfl) : MG X (.Tuple [.Name x px, .Name y py, .Name z pz] q pos) (.tp [i, j, k]) :=
  pg_tup hc (pgs_cons (pg_name hN hi (loc_of hx) (fn_of' hf)) (pgs_cons (pg_name hN hj (loc_of hy) (fn_of' hfy)) (pgs_cons (pg_name hN hk (loc_of hz) (fn_of' hfz)) pgs_nil))) hn hst
/-! ### names = data -/
section
variable {X : Cx} {W : WX} {st : Stmt}
/-- a target = data, one's own lists not read -/
def sTgtH (t : Tg) (f : FE) : FS := fun S n => match f (hidE S) n with
  | some (d, n1) => (match bindS t d S with
    | some S' => some (.nx S', n1)
    | none => none)
  | none => none
theorem ms_tgtH {t : Tg} {te : TE} {f : FE} (h : PS X st (tAsg te (gOf X.K t))) (hf : te = tM X.K f) : MS X W st (sTgtH t f) := by
  subst hf
  refine ps_imp h fun Dn σ H q => ?_
  obtain ⟨Fz, tau, T0, S, n, fl, n', ⟨o, R⟩, e, a⟩ := q
  unfold sTgtH at e
  split at e
  · rename_i d n1 h1
    split at e
    · rename_i S' h2
      cases e
      refine tM_run R.hid R.town h1 fun v H' k _ t r => ?_
      exact gOf_runS (R.keep k t) r h2 fun σ1 o1 q => a σ1 _ o1 q
    · cases e
  · cases e
theorem ktgtH {tg e : Expr} {t : Tg} {f : FE} {pos : Pos} (hg : MG X tg t) (he : ME X e f) (hs : swapsWithSole [tg] e pos.line X.env = pure false := by kernel_rfl) (hw : swappedStores [tg] e X.env = pure none := by kernel_rfl)
    (h1 : (assignEach [tg] X.env).map (·.2) = [assign tg X.env] := by kernel_rfl) : MS X W (.Assign [tg] e pos) (sTgtH t f) := ms_tgtH (ps_asg he hg hs hw h1) rfl
/-- a target = data without lists -/
def sTgt (t : Tg) (f : FE) : FS := fun S n => match f (frzE S) n with
  | some (d, n1) => if lf d then (match bindS t d S with
    | some S' => some (.nx S', n1)
    | none => none) else none
  | none => none
theorem ms_tgt {t : Tg} {te : TE} {f : FE} (h : PS X st (tAsg te (gOf X.K t))) (hf : te = tM X.K f) : MS X W st (sTgt t f) := by
  subst hf
  refine ps_imp h fun Dn σ H q => ?_
  obtain ⟨Fz, tau, T0, S, n, fl, n', ⟨o, R⟩, e, a⟩ := q
  unfold sTgt at e
  split at e
  · rename_i d n1 h1
    split at e
    · rename_i hl
      split at e
      · rename_i S' h2
        cases e
        refine tM_run R.frz R.town h1 fun v H' k _ t r => ?_
        exact gOf_runS (R.keep k t) ((R.keep k t).noT r hl) h2 fun σ1 o1 q => a σ1 _ o1 q
      · cases e
    · cases e
  · cases e
theorem ktgt {tg e : Expr} {t : Tg} {f : FE} {pos : Pos} (hg : MG X tg t) (he : ME X e f) (hs : swapsWithSole [tg] e pos.line X.env = pure false := by kernel_rfl) (hw : swappedStores [tg] e X.env = pure none := by kernel_rfl)
    (h1 : (assignEach [tg] X.env).map (·.2) = [assign tg X.env] := by kernel_rfl) : MS X W (.Assign [tg] e pos) (sTgt t f) := ms_tgt (ps_asg he hg hs hw h1) rfl
/-- names = a list of data without lists -/
def sUnp (is : List Nat) (f : FE) : FS := fun S n => match f (frzE S) n with
  | some (.list ds, n1) => if lfL ds && decide (ds.length = is.length) then some (.nx (setAllV S is ds), n1) else none
  | _ => none
theorem ms_unp {is : List Nat} {te : TE} {f : FE} (h : PS X st (tAsg te (gLst X.K is.length (gsOf is)))) (hf : te = tM X.K f) : MS X W st (sUnp is f) := by
  subst hf
  refine ps_imp h fun Dn σ H q => ?_
  obtain ⟨Fz, tau, T0, S, n, fl, n', ⟨o, R⟩, e, a⟩ := q
  unfold sUnp at e
  split at e
  · rename_i ds n1 h1
    split at e
    · rename_i hl
      rw [Bool.and_eq_true] at hl
      obtain ⟨hl, hn⟩ := hl
      have hn := of_decide_eq_true hn
      cases e
      refine tM_run R.frz R.town h1 fun v H' k _ t r => ?_
      cases r with
      | lst g1 m1 l1 q1 =>
        have R' := R.keep k t
        obtain ⟨o', R2⟩ := R'.setAllV is (R'.noTL q1 hl)
        exact ⟨_, _, rfl, SqL.of g1, by rw [q1.length, hn], gsOf_run is (by rw [q1.length, hn]) (a _ _ _ R2)⟩
    · cases e
  · cases e
def namesB (X : Cx) : List Expr → List Nat → Bool
  | [], [] => true
  | .Name x _ :: es, i :: is => decide (X.N[i]? = some x) && locB X.env.scope x && (X.fn x || lclB X.env.scope x) && namesB X es is
  | _, _ => false
theorem ae_name (x : Str) (p : Pos) (es : List Expr) : (assignEach (.Name x p :: es) X.env).map (·.2) = assign (.Name x p) X.env :: (assignEach es X.env).map (·.2) := by
  conv => lhs; unfold assignEach
  rfl
theorem pgs_names (hN : X.N.Nodup) : ∀ {es : List Expr} {is : List Nat}, namesB X es is = true → PGs X es (gsOf is)
  | [], [], _ => pgs_nil
  | [], _ :: _, h => by cases h
  | .Name x p :: es, i :: is, h => by
    unfold namesB at h
    simp only [Bool.and_eq_true] at h
    obtain ⟨⟨⟨h1, h2⟩, h3⟩, h4⟩ := h
    exact pgs_cons (pg_name hN (of_decide_eq_true h1) (loc_of h2) (fn_of' h3)) (pgs_names hN h4) (ae_name x p es)
  | .Name x p :: es, [], h => by cases h
theorem kunp {es : List Expr} (is : List Nat) {e : Expr} {kk : Nat} {f : FE} {pos tpos : Pos} (hN : X.N.Nodup) (he : ME X e f) (hb : namesB X es is = true := by kernel_rfl) (hc : X.calm = true := by kernel_rfl)
    (hn : (assignEach es X.env).length = is.length := by kernel_rfl) (hst : (assignEach es X.env).findIdx? (·.1) = none := by kernel_rfl)
    (hs : swapsWithSole [.Tuple es kk tpos] e pos.line X.env = pure false := by kernel_rfl) (hw : swappedStores [.Tuple es kk tpos] e X.env = pure none := by kernel_rfl)
    (h1 : (assignEach [.Tuple es kk tpos] X.env).map (·.2) = [assign (.Tuple es kk tpos) X.env] := by kernel_rfl) : MS X W (.Assign [.Tuple es kk tpos] e pos) (sUnp is f) :=
  ms_unp (ps_asg he (pg_lst hc (pgs_names hN hb) hn hst) hs hw h1) rfl
/-- x, y = a, b: data without lists -/
def sPar (i j : Nat) (fs : Fe (List D)) : FS := fun S n => match fs (frzE S) n with
  | some ([d, e], n1) => if lf d && lf e then some (.nx ((S.set i (some (.val d))).set j (some (.val e))), n1) else none
  | _ => none
theorem ms_par {i j : Nat} {ta : TA} {fs : Fe (List D)} (h : PS X st (tPar i j ta)) (hf : ta = tMA X.K fs) : MS X W st (sPar i j fs) := by
  subst hf
  refine ps_imp h fun Dn σ H q => ?_
  obtain ⟨Fz, tau, T0, S, n, fl, n', ⟨o, R⟩, e, a⟩ := q
  unfold sPar at e
  split at e
  · rename_i d1 d2 n1 h1
    split at e
    · rename_i hl
      rw [Bool.and_eq_true] at hl
      cases e
      refine tMA_run R.frz R.town h1 fun v H' k _ t r => ?_
      obtain ⟨u, u2, rfl, r2, r3⟩ := rpl2 r
      have R' := R.keep k t
      have R2 := R'.setVal (i := i) (R'.noT r2 hl.1)
      exact ⟨_, _, rfl, a _ _ _ (R2.setVal (i := j) (R2.noT r3 hl.2))⟩
    · cases e
  · cases e
/-- x, y = a, b: any data, one's own lists not read -/
def sParH (i j : Nat) (fs : Fe (List D)) : FS := fun S n => match fs (hidE S) n with
  | some ([d, e], n1) => some (.nx ((S.set i (some (.val d))).set j (some (.val e))), n1)
  | _ => none
theorem ms_parH {i j : Nat} {ta : TA} {fs : Fe (List D)} (h : PS X st (tPar i j ta)) (hf : ta = tMA X.K fs) : MS X W st (sParH i j fs) := by
  subst hf
  refine ps_imp h fun Dn σ H q => ?_
  obtain ⟨Fz, tau, T0, S, n, fl, n', ⟨o, R⟩, e, a⟩ := q
  unfold sParH at e
  split at e
  · rename_i d1 d2 n1 h1
    cases e
    refine tMA_run R.hid R.town h1 fun v H' k _ t r => ?_
    obtain ⟨u, u2, rfl, r2, r3⟩ := rpl2 r
    have R' := R.keep k t
    have R2 := R'.setVal (i := i) r2
    exact ⟨_, _, rfl, a _ _ _ (R2.setVal (i := j) (r3.less tOf_drop))⟩
  · cases e
theorem kparP {x y : Str} {a b : Expr} {ta : TA} {px py pt pos pt2 : Pos} {kt k2 : Nat} (i j : Nat) (hN : X.N.Nodup) (ha : PA X [a, b] ta) (hi : X.N[i]? = some x := by kernel_rfl) (hj : X.N[j]? = some y := by kernel_rfl) (hij : Nat.beq i j = false := by kernel_rfl)
    (hx : lclB X.env.scope x = true := by kernel_rfl) (hy : lclB X.env.scope y = true := by kernel_rfl) (hc : X.calm = true := by kernel_rfl)
    (hw : swappedStores [.Tuple [.Name x px, .Name y py] kt pt] (.Tuple [a, b] k2 pt2) X.env = pure (some [x, y]) := by kernel_rfl)
    (hs : swapsWithSole [.Tuple [.Name x px, .Name y py] kt pt] (.Tuple [a, b] k2 pt2) pos.line X.env = pure false := by kernel_rfl) :
    PS X (.Assign [.Tuple [.Name x px, .Name y py] kt pt] (.Tuple [a, b] k2 pt2) pos) (tPar i j ta) :=
  ps_par hc hN hi hj (fun z => by subst z; rw [Nat.beq_refl] at hij; cases hij) (lcl_of hx) (lcl_of hy) ha hw hs
end

/-- is_integer: slots value low high -/
def b_is_integer : FS := (sRet (eAnd (e1 (dIsi "int") (eVar 0)) (eAnd (eNot (e1 (dIsi "bool") (eVar 0))) (eChain dLe dLe (eVar 1) (eVar 0) (eVar 2)))))
def m_is_integer : Fn := mkF 3 0 b_is_integer
/-- is_square_of: slots value count low high row one -/
def b_is_square_of : FS := (sSeq (sIf (bOr (bNot (bV (e1 (dIsi "tuple") (eVar 0)))) (bV (e2 dNe (eL (c1 dLen) (aCons (eVar 0) aNil)) (eVar 1))))
  (sRet (eC (.bool false)))
  sSkip)
  (sSeq (sFor (iS (eVar 0)) (.nm 4)
  (sIf (bOr (bNot (bV (e1 (dIsi "tuple") (eVar 4)))) (bOr (bV (e2 dNe (eL (c1 dLen) (aCons (eVar 4) aNil)) (eVar 1))) (bNot (bV (eL (c1 dAll) (aCons (eList (eLc [5] (iS (eVar 4)) (.nm 5) bYes (eCall m_is_integer (aCons (eVar 5) (aCons (eVar 2) (aCons (eVar 3) aNil)))))) aNil))))))
  (sRet (eC (.bool false)))
  sSkip))
  (sRet (eC (.bool true)))))
def m_is_square_of : Fn := mkF 4 2 b_is_square_of
/-- is_matrix: slots value -/
def b_is_matrix : FS := (sRet (eAnd (e1 (dIsi "tuple") (eVar 0)) (eAnd (eChain dLe dLe (eC (.int 1)) (eL (c1 dLen) (aCons (eVar 0) aNil)) (eC (.int 5))) (eCall m_is_square_of (aCons (eVar 0) (aCons (eL (c1 dLen) (aCons (eVar 0) aNil)) (aCons (eC (.int 0)) (aCons (eC (.int 9)) aNil))))))))
def m_is_matrix : Fn := mkF 1 0 b_is_matrix
/-- check_matrix: slots matrix -/
def b_check_matrix : FS := (sIf (bNot (bV (eCall m_is_matrix (aCons (eVar 0) aNil))))
  (sRaise "InvalidMatrix")
  sSkip)
def m_check_matrix : Fn := mkF 1 0 b_check_matrix
/-- line_sums: slots matrix row at -/
def b_line_sums : FS := (sRet (e2 dAdd (eList (eLc [1] (iS (eVar 0)) (.nm 1) bYes (eL (c1 dSum) (aCons (eVar 1) aNil)))) (eList (eLc [2] (iR1 (aCons (eL (c1 dLen) (aCons (eVar 0) aNil)) aNil)) (.nm 2) bYes (eL (c1 dSum) (aCons (eList (eLc [1] (iS (eVar 0)) (.nm 1) bYes (e2 dIx (eVar 1) (eVar 2)))) aNil))))))
def m_line_sums : Fn := mkF 1 2 b_line_sums
/-- degree_of: slots matrix -/
def b_degree_of : FS := (sRet (eL (c1 dMax) (aCons (eCall m_line_sums (aCons (eVar 0) aNil)) aNil)))
def m_degree_of : Fn := mkF 1 0 b_degree_of
/-- lifted: slots matrix top count rows row i j room -/
def b_lifted : FS := (sSeq (sPar 1 2 (aCons (eCall m_degree_of (aCons (eVar 0) aNil)) (aCons (eL (c1 dLen) (aCons (eVar 0) aNil)) aNil)))
  (sSeq (sOwn2 3 (eLc2 [4] (iS (eVar 0)) (.nm 4) (aSeq (aCons (eVar 4) aNil))))
  (sSeq (sFor (iR1 (aCons (eVar 2) aNil)) (.nm 5)
  (sFor (iR1 (aCons (eVar 2) aNil)) (.nm 6)
  (sSeq (sSet 7 (eL dMin2 (aCons (e2 dSub (eVar 1) (eL (c1 dSum) (aCons (e2 dIx (eVar 3) (eVar 5)) aNil))) (aCons (e2 dSub (eVar 1) (eL (c1 dSum) (aCons (eList (eLc [4] (iS (eVar 3)) (.nm 4) bYes (e2 dIx (eVar 4) (eVar 6)))) aNil))) aNil))))
  (sAug2 3 (eVar 5) (eVar 6) (eVar 7) (fun i j => i + j)))))
  (sRet (eL (c1 dTuple) (aCons (eList (eLc [4] (iS (eVar 3)) (.nm 4) bYes (eL (c1 dTuple) (aCons (eVar 4) aNil)))) aNil))))))
def m_lifted : Fn := mkF 1 7 b_lifted
/-- raised: slots matrix -/
def b_raised : FS := (sSeq (sCallX m_check_matrix (aCons (eVar 0) aNil))
  (sRet (eCall m_lifted (aCons (eVar 0) aNil))))
def m_raised : Fn := mkF 1 0 b_raised
/-- is_raised: slots matrix value row other entry more total -/
def b_is_raised : FS := (sSeq (sCallX m_check_matrix (aCons (eVar 0) aNil))
  (sSeq (sIf (bNot (bV (eCall m_is_square_of (aCons (eVar 1) (aCons (eL (c1 dLen) (aCons (eVar 0) aNil)) (aCons (eC (.int 0)) (aCons (eC (.int 99)) aNil)))))))
  (sRet (eC (.bool false)))
  sSkip)
  (sSeq (sFor (iZ (aCons (eVar 0) (aCons (eVar 1) aNil))) (.tp [2, 3])
  (sIf (bV (eL (c1 dAny) (aCons (eList (eLc [4, 5] (iZ (aCons (eVar 2) (aCons (eVar 3) aNil))) (.tp [4, 5]) bYes (e2 dGt (eVar 4) (eVar 5)))) aNil)))
  (sRet (eC (.bool false)))
  sSkip))
  (sRet (eL (c1 dAll) (aCons (eList (eLc [6] (iS (eCall m_line_sums (aCons (eVar 1) aNil))) (.nm 6) bYes (e2 dEq (eVar 6) (eCall m_degree_of (aCons (eVar 0) aNil))))) aNil))))))
def m_is_raised : Fn := mkF 2 5 b_is_raised
/-- _law_cell_at: slots script k spare again -/
def b__law_cell_at : FS := (sSeq (sIf (bV (e2 dLt (eVar 1) (eL (c1 dLenS) (aCons (eVar 0) aNil))))
  (sRet (e2 dIxS (eVar 0) (eVar 1)))
  sSkip)
  (sSeq (sIf (bV (e2 dEqS (eVar 0) (eL dLst aNil)))
  (sRet (eC (.int 0)))
  sSkip)
  (sSeq (sSet 2 (e2 dIxS (eVar 0) (e2 dMod (eVar 1) (eL (c1 dLenS) (aCons (eVar 0) aNil)))))
  (sSeq (sFor (iR1 (aCons (eL dMin2 (aCons (e2 dFdiv (eVar 1) (eL (c1 dLenS) (aCons (eVar 0) aNil))) (aCons (eC (.int 60)) aNil))) aNil)) (.nm 3)
  (sSet 2 (e2 dFdiv (eVar 2) (eC (.int 1000003)))))
  (sRet (e2 dAdd (e2 dAdd (e2 dMul (e2 dIxS (eVar 0) (e2 dMod (eVar 1) (eL (c1 dLenS) (aCons (eVar 0) aNil)))) (eC (.int 31))) (eVar 1)) (e2 dMul (eVar 2) (eC (.int 101)))))))))
def m__law_cell_at : Fn := mkF 2 2 b__law_cell_at
/-- _law_mixed: slots script k many spun -/
def b__law_mixed : FS := (sSeq (sSet 3 (e2 dMod (e2 dAdd (e2 dAdd (e2 dMul (eCall m__law_cell_at (aCons (eVar 0) (aCons (eVar 1) aNil))) (eC (.int 1103515245))) (e2 dMul (eC (.int 7919)) (eVar 1))) (eC (.int 12345))) (eC (.int 2147483647))))
  (sRet (e2 dMod (e2 dMod (e2 dMod (e2 dPow (eVar 3) (eC (.int 5))) (eC (.int 2147483647))) (eC (.int 999983))) (eVar 2))))
def m__law_mixed : Fn := mkF 3 1 b__law_mixed
/-- _law_draw: slots script town many -/
def b__law_draw : FS := (sSeq (sTown 1)
  (sRet (eCall m__law_mixed (aCons (eVar 0) (aCons (eTown 1) (aCons (eVar 2) aNil))))))
def m__law_draw : Fn := mkF 3 0 b__law_draw
/-- _law_same_truth: slots got due -/
def b__law_same_truth : FS := (sRet (eAnd (e1 (dIsi "bool") (eVar 0)) (e2 dEq (eVar 0) (eVar 1))))
def m__law_same_truth : Fn := mkF 2 0 b__law_same_truth
/-- _law_pick: slots script town some -/
def b__law_pick : FS := (sRet (e2 dIx (eVar 2) (eCall m__law_draw (aCons (eVar 0) (aCons (eVar 1) (aCons (eL (c1 dLen) (aCons (eVar 2) aNil)) aNil))))))
def m__law_pick : Fn := mkF 3 0 b__law_pick
/-- _law_any_matrix: slots script town most count top rare rows i row j -/
def b__law_any_matrix : FS := (sSeq (sSet 3 (e2 dAdd (eC (.int 1)) (eCall m__law_draw (aCons (eVar 0) (aCons (eVar 1) (aCons (eVar 2) aNil))))))
  (sSeq (sSet 4 (eCall m__law_pick (aCons (eVar 0) (aCons (eVar 1) (aCons (eL dLst (aCons (eC (.int 2)) (aCons (eC (.int 3)) (aCons (eC (.int 5)) (aCons (eC (.int 10)) aNil))))) aNil)))))
  (sSeq (sSet 5 (eCall m__law_draw (aCons (eVar 0) (aCons (eVar 1) (aCons (eC (.int 3)) aNil)))))
  (sSeq (sOwn 6 (aLim aNil))
  (sSeq (sFor (iR1 (aCons (eVar 3) aNil)) (.nm 7)
  (sSeq (sOwn 8 (eLc [9] (iR1 (aCons (eVar 3) aNil)) (.nm 9) bYes (eIf (bV (e2 dLt (eCall m__law_draw (aCons (eVar 0) (aCons (eVar 1) (aCons (eC (.int 3)) aNil)))) (eVar 5))) (eC (.int 0)) (eCall m__law_draw (aCons (eVar 0) (aCons (eVar 1) (aCons (eVar 4) aNil)))))))
  (sApp 6 (eL (c1 dTuple) (aCons (eVar 8) aNil)))))
  (sRet (eL (c1 dTuple) (aCons (eVar 6) aNil))))))))
def m__law_any_matrix : Fn := mkF 3 7 b__law_any_matrix
/-- _law_orders_of: slots count made again later one column -/
def b__law_orders_of : FS := (sSeq (sOwn 1 (aLim (aCons (eL dTup aNil) aNil)))
  (sSeq (sFor (iR1 (aCons (eVar 0) aNil)) (.nm 2)
  (sSeq (sOwn 3 (aLim aNil))
  (sSeq (sFrz 1 (sFor (iS (eVar 1)) (.nm 4)
  (sExt 3 (eList (eLc [5] (iR1 (aCons (eVar 0) aNil)) (.nm 5) (bV (e2 dNotIn (eVar 5) (eVar 4))) (e2 dAdd (eVar 4) (eL dTup (aCons (eVar 5) aNil))))))))
  (sMove 3 1))))
  (sRet (eVar 1))))
def m__law_orders_of : Fn := mkF 1 5 b__law_orders_of
/-- _law_even_matrix: slots script town most parts count rows row some again order more i -/
def b__law_even_matrix : FS := (sSeq (sSet 4 (e2 dAdd (eC (.int 1)) (eCall m__law_draw (aCons (eVar 0) (aCons (eVar 1) (aCons (eVar 2) aNil))))))
  (sSeq (sOwn2 5 (eLc2 [6] (iR1 (aCons (eVar 4) aNil)) (.nm 6) (aRep (eL dLst (aCons (eC (.int 0)) aNil)) (eVar 4))))
  (sSeq (sSetH 7 (eCall m__law_orders_of (aCons (eVar 4) aNil)))
  (sSeq (sFor (iR1 (aCons (eCall m__law_draw (aCons (eVar 0) (aCons (eVar 1) (aCons (e2 dAdd (eVar 3) (eC (.int 1))) aNil)))) aNil)) (.nm 8)
  (sSeq (sSet 9 (eCall m__law_pick (aCons (eVar 0) (aCons (eVar 1) (aCons (eVar 7) aNil)))))
  (sSeq (sSet 10 (e2 dAdd (eC (.int 1)) (eCall m__law_draw (aCons (eVar 0) (aCons (eVar 1) (aCons (eC (.int 2)) aNil))))))
  (sIf (bV (e2 dLt (e2 dAdd (eL (c1 dMax) (aCons (eList (eLc [11] (iR1 (aCons (eVar 4) aNil)) (.nm 11) bYes (e2 dIx (e2 dIx (eVar 5) (eVar 11)) (e2 dIx (eVar 9) (eVar 11))))) aNil)) (eVar 10)) (eC (.int 10))))
  (sFor (iR1 (aCons (eVar 4) aNil)) (.nm 11)
  (sAug2 5 (eVar 11) (e2 dIx (eVar 9) (eVar 11)) (eVar 10) (fun i j => i + j)))
  sSkip))))
  (sRet (eL (c1 dTuple) (aCons (eList (eLc [6] (iS (eVar 5)) (.nm 6) bYes (eL (c1 dTuple) (aCons (eVar 6) aNil)))) aNil)))))))
def m__law_even_matrix : Fn := mkF 4 8 b__law_even_matrix
/-- _law_line_totals: slots own totals row j -/
def b__law_line_totals : FS := (sSeq (sOwn 1 (eLc [2] (iS (eVar 0)) (.nm 2) bYes (eL (c1 dSum) (aCons (eVar 2) aNil))))
  (sRet (e2 dAdd (eVar 1) (eList (eLc [3] (iR1 (aCons (eL (c1 dLen) (aCons (eVar 0) aNil)) aNil)) (.nm 3) bYes (eL (c1 dSum) (aCons (eList (eLc [2] (iS (eVar 0)) (.nm 2) bYes (e2 dIx (eVar 2) (eVar 3)))) aNil)))))))
def m__law_line_totals : Fn := mkF 1 3 b__law_line_totals
/-- _law_fine: slots own value total row other entry more -/
def b__law_fine : FS := (sSeq (sIf (bV (e2 dNe (eList (eLc [2] (iS (eCall m__law_line_totals (aCons (eVar 1) aNil))) (.nm 2) (bV (e2 dNe (eVar 2) (eL (c1 dMax) (aCons (eCall m__law_line_totals (aCons (eVar 0) aNil)) aNil)))) (eVar 2))) (eL dLst aNil)))
  (sRet (eC (.bool false)))
  sSkip)
  (sSeq (sFor (iZ (aCons (eVar 0) (aCons (eVar 1) aNil))) (.tp [3, 4])
  (sIf (bV (e2 dNe (eList (eLc [5, 6] (iZ (aCons (eVar 3) (aCons (eVar 4) aNil))) (.tp [5, 6]) (bV (e2 dGt (eVar 5) (eVar 6))) (eVar 5))) (eL dLst aNil)))
  (sRet (eC (.bool false)))
  sSkip))
  (sRet (eC (.bool true)))))
def m__law_fine : Fn := mkF 2 5 b__law_fine
/-- law: slots script town own count got totals rows row i j k m again a b more other odds odd -/
def t_law12 : FS := (sRet (e2 dEq (eList (eLc [18] (iS (eVar 17)) (.nm 18) bYes (eCall m_is_raised (aCons (eVar 2) (aCons (eVar 18) aNil))))) (e2 dMul (eL dLst (aCons (eC (.bool false)) aNil)) (eL (c1 dLen) (aCons (eVar 17) aNil)))))
def t_law11 : FS := sSeq (sAppH 17 (e2 dAdd (eL dTup (aCons (e2 dAdd (eL dTup (aCons (e2 dAdd (e2 dIx (e2 dIx (eVar 4) (eC (.int 0))) (eC (.int 0))) (eC (.int 1))) aNil)) (eSl dSl (e2 dIx (eVar 4) (eC (.int 0))) (oSome (eC (.int 1))) oNone)) aNil)) (eSl dSl (eVar 4) (oSome (eC (.int 1))) oNone)))
  t_law12
def t_law10 : FS := sSeq (sOwnH 17 (aLim (aCons (eC .none) (aCons (eL (c1 dList) (aCons (eVar 4) aNil)) (aCons (e2 dAdd (eVar 4) (eSl dSl (eVar 4) oNone (oSome (eC (.int 1))))) (aCons (eSl dSl (eVar 4) (oSome (eC (.int 1))) oNone) (aCons (e2 dAdd (eL dTup (aCons (eL (c1 dList) (aCons (e2 dIx (eVar 4) (eC (.int 0))) aNil)) aNil)) (eSl dSl (eVar 4) (oSome (eC (.int 1))) oNone)) (aCons (e2 dAdd (eL dTup (aCons (e2 dAdd (e2 dIx (eVar 4) (eC (.int 0))) (eL dTup (aCons (eC (.int 0)) aNil))) aNil)) (eSl dSl (eVar 4) (oSome (eC (.int 1))) oNone)) aNil))))))))
  t_law11
def t_law9 : FS := sSeq (sIf (bAnd (bV (e2 dNe (eVar 8) (eVar 10))) (bAnd (bV (e2 dNe (eVar 9) (eVar 11))) (bAnd (bV (e2 dGt (e2 dIx (e2 dIx (eVar 6) (eVar 8)) (eVar 9)) (eC (.int 0)))) (bV (e2 dGt (e2 dIx (e2 dIx (eVar 6) (eVar 10)) (eVar 11)) (eC (.int 0)))))))
  (sSeq (sFor (iS (eL dLst (aCons (eL dTup (aCons (eVar 8) (aCons (eVar 9) (aCons (e1 dNeg (eC (.int 1))) aNil)))) (aCons (eL dTup (aCons (eVar 10) (aCons (eVar 11) (aCons (e1 dNeg (eC (.int 1))) aNil)))) (aCons (eL dTup (aCons (eVar 8) (aCons (eVar 11) (aCons (eC (.int 1)) aNil)))) (aCons (eL dTup (aCons (eVar 10) (aCons (eVar 9) (aCons (eC (.int 1)) aNil)))) aNil)))))) (.tp [13, 14, 15])
  (sAug2 6 (eVar 13) (eVar 14) (eVar 15) (fun i j => i + j)))
  (sSeq (sSet 16 (eL (c1 dTuple) (aCons (eList (eLc [7] (iS (eVar 6)) (.nm 7) bYes (eL (c1 dTuple) (aCons (eVar 7) aNil)))) aNil)))
  (sIf (bNot (bV (eCall m__law_same_truth (aCons (eCall m_is_raised (aCons (eVar 2) (aCons (eVar 16) aNil))) (aCons (eCall m__law_fine (aCons (eVar 2) (aCons (eVar 16) aNil))) aNil)))))
  (sRet (eC (.bool false)))
  sSkip)))
  sSkip)
  t_law10
def t_law8 : FS := sSeq (sUnp [8, 9, 10, 11] (eList (eLc [12] (iR1 (aCons (eC (.int 4)) aNil)) (.nm 12) bYes (eCall m__law_draw (aCons (eVar 0) (aCons (eVar 1) (aCons (eVar 3) aNil)))))))
  t_law9
def t_law7 : FS := sSeq (sOwn2 6 (eLc2 [7] (iS (eVar 4)) (.nm 7) (aSeq (aCons (eVar 7) aNil))))
  t_law8
def t_law6 : FS := sSeq (sIf (bAnd (bV (e2 dEq (eL (c1 dMin) (aCons (eVar 5) aNil)) (eL (c1 dMax) (aCons (eVar 5) aNil)))) (bV (e2 dNe (eVar 4) (eVar 2))))
  (sRet (eC (.bool false)))
  sSkip)
  t_law7
def t_law5 : FS := sSeq (sSetH 5 (eCall m__law_line_totals (aCons (eVar 2) aNil)))
  t_law6
def t_law4 : FS := sSeq (sIf (bOr (bNot (bV (eCall m__law_fine (aCons (eVar 2) (aCons (eVar 4) aNil))))) (bV (e2 dIsNot (eCall m_is_raised (aCons (eVar 2) (aCons (eVar 4) aNil))) (eC (.bool true)))))
  (sRet (eC (.bool false)))
  sSkip)
  t_law5
def t_law3 : FS := sSeq (sSet 4 (eCall m_raised (aCons (eVar 2) aNil)))
  t_law4
def t_law2 : FS := sSeq (sSet 3 (eL (c1 dLen) (aCons (eVar 2) aNil)))
  t_law3
def t_law1 : FS := sSeq (sIf (bV (e2 dEq (eCall m__law_draw (aCons (eVar 0) (aCons (eVar 1) (aCons (eC (.int 3)) aNil)))) (eC (.int 0))))
  (sSet 2 (eCall m__law_even_matrix (aCons (eVar 0) (aCons (eVar 1) (aCons (eC (.int 5)) (aCons (eC (.int 4)) aNil))))))
  sSkip)
  t_law2
def b_law : FS := sSeq (sSet 2 (eCall m__law_any_matrix (aCons (eVar 0) (aCons (eVar 1) (aCons (eC (.int 5)) aNil)))))
  t_law1

theorem frz1_val (d : D) : frz1 (some (.val d)) = some d := rfl
theorem frz1_own (d : List D) : frz1 (some (.own d)) = some (.list d) := rfl
theorem frz1_own2 (d : List (List D)) : frz1 (some (.own2 d)) = some (.list (d.map .list)) := rfl
theorem frz1_none : frz1 none = none := rfl
theorem hid1_val (d : D) : hid1 (some (.val d)) = some d := rfl
theorem hid1_own (d : List D) : hid1 (some (.own d)) = none := rfl
theorem hid1_own2 (d : List (List D)) : hid1 (some (.own2 d)) = none := rfl
theorem hid1_none : hid1 none = none := rfl
/-! ### statement by statement -/
section
variable {f g : FS} {S S1 : Es} {n n1 : Nat}
theorem sSeq_nx (h : f S n = some (.nx S1, n1)) : sSeq f g S n = g S1 n1 := by unfold sSeq; rw [h]
theorem sSeq_rt {d : D} (h : f S n = some (.rt d, n1)) : sSeq f g S n = some (.rt d, n1) := by unfold sSeq; rw [h]
theorem sSeq_ex {c : Str} (h : f S n = some (.ex c, n1)) : sSeq f g S n = some (.ex c, n1) := by unfold sSeq; rw [h]
theorem sIf_t {c : Fe Bool} (h : c (frzE S) n = some (true, n1)) : sIf c f g S n = f S n1 := by unfold sIf; rw [h]
theorem sIf_f {c : Fe Bool} (h : c (frzE S) n = some (false, n1)) : sIf c f g S n = g S n1 := by unfold sIf; rw [h]
theorem sFor_go {fi : Fe (List D)} {t : Tg} {items : List D} (h : fi (hidE S) n = some (items, n1)) : sFor fi t f S n = forGo t f items S n1 := by unfold sFor; rw [h]
theorem sSet_ok {i : Nat} {e : FE} {d : D} (h : e (frzE S) n = some (d, n1)) (hl : lf d = true) : sSet i e S n = some (.nx (S.set i (some (.val d))), n1) := by unfold sSet; rw [h]; simp [hl]
theorem sSetH_ok {i : Nat} {e : FE} {d : D} (h : e (hidE S) n = some (d, n1)) : sSetH i e S n = some (.nx (S.set i (some (.val d))), n1) := by unfold sSetH; rw [h]
theorem sOwn_ok {i : Nat} {e : Fe (List D)} {d : List D} (h : e (frzE S) n = some (d, n1)) (hl : lfL d = true) : sOwn i e S n = some (.nx (S.set i (some (.own d))), n1) := by unfold sOwn; rw [h]; simp [hl]
theorem sOwnH_ok {i : Nat} {e : Fe (List D)} {d : List D} (h : e (hidE S) n = some (d, n1)) : sOwnH i e S n = some (.nx (S.set i (some (.own d))), n1) := by unfold sOwnH; rw [h]
theorem sOwn2_ok {i : Nat} {e : Fe (List (List D))} {d : List (List D)} (h : e (hidE S) n = some (d, n1)) : sOwn2 i e S n = some (.nx (S.set i (some (.own2 d))), n1) := by unfold sOwn2; rw [h]
theorem sRet_ok {e : FE} {d : D} (h : e (frzE S) n = some (d, n1)) : sRet e S n = some (.rt d, n1) := by unfold sRet; rw [h]
theorem mkF_rt {ar nl : Nat} {ds : List D} {d : D} (hl : ds.length = ar) (h : f (start0 nl ds) n = some (.rt d, n1)) : mkF ar nl f ds n = some (.ok d, n1) := by unfold mkF; rw [if_pos hl, h]
theorem mkF_rf {ar nl : Nat} {ds : List D} {d : List D} (hl : ds.length = ar) (h : f (start0 nl ds) n = some (.rf d, n1)) : mkF ar nl f ds n = some (.ok (.list d), n1) := by unfold mkF; rw [if_pos hl, h]
theorem mkF_nx {ar nl : Nat} {ds : List D} (hl : ds.length = ar) (h : f (start0 nl ds) n = some (.nx S1, n1)) : mkF ar nl f ds n = some (.ok .none, n1) := by unfold mkF; rw [if_pos hl, h]
theorem mkF_ex {ar nl : Nat} {ds : List D} {c : Str} (hl : ds.length = ar) (h : f (start0 nl ds) n = some (.ex c, n1)) : mkF ar nl f ds n = some (.ex c, n1) := by unfold mkF; rw [if_pos hl, h]
theorem forGo_nil {t : Tg} : forGo t f [] S n = some (.nx S, n) := rfl
theorem forGo_nx {t : Tg} {x : D} {r : List D} {S' : Es} (hb : bindS t x S = some S') (h : f S' n = some (.nx S1, n1)) : forGo t f (x :: r) S n = forGo t f r S1 n1 := by
  rw [forGo]; simp only [hb, h]
theorem forGo_rt {t : Tg} {x d : D} {r : List D} {S' : Es} (hb : bindS t x S = some S') (h : f S' n = some (.rt d, n1)) : forGo t f (x :: r) S n = some (.rt d, n1) := by
  rw [forGo]; simp only [hb, h]
theorem forGo_bk {t : Tg} {x : D} {r : List D} {S' : Es} (hb : bindS t x S = some S') (h : f S' n = some (.bk S1, n1)) : forGo t f (x :: r) S n = some (.nx S1, n1) := by
  rw [forGo]; simp only [hb, h]
theorem eCall_ok {m : Fn} {fs : Fe (List D)} {env : En} {ds : List D} {d : D} {n2 : Nat} (h : fs env n = some (ds, n1)) (hm : m ds n1 = some (.ok d, n2)) : eCall m fs env n = some (d, n2) := by unfold eCall; rw [h]; simp only [hm]
end
theorem lf_int (i : Int) : lf (.int i) = true := rfl
theorem lfL_ints : ∀ (l : List Int), lfL (l.map .int) = true
  | [] => rfl
  | a :: b => by rw [List.map_cons, lfL, lfL_ints b]; rfl
theorem lfL_all {ds : List D} (h : ∀ d ∈ ds, lf d = true) : lfL ds = true := by
  induction ds with
  | nil => rfl
  | cons d r ih => rw [lfL, h d List.mem_cons_self, ih fun e he => h e (List.mem_cons_of_mem _ he)]; rfl
theorem lfL_mem : ∀ {ds : List D}, lfL ds = true → ∀ d ∈ ds, lf d = true
  | [], _, d, h => by cases h
  | e :: r, h, d, hd => by
    rw [lfL, Bool.and_eq_true] at h
    rcases List.mem_cons.mp hd with rfl | hd
    · exact h.1
    · exact lfL_mem h.2 d hd
/-! ### comprehensions over data -/
theorem lc_map {α : Type} {env : En} {i : Nat} {fe : FE} {n : Nat} (enc : α → D) (g : α → D) : ∀ (xs : List α), (∀ x ∈ xs, fe (env.set i (some (enc x))) n = some (g x, n)) → lcGo env (.nm i) bYes fe (xs.map enc) n = some (xs.map g, n)
  | [], _ => rfl
  | x :: r, h => by
    have h1 := h x List.mem_cons_self
    have h2 := lc_map (i := i) (fe := fe) enc g r fun y hy => h y (List.mem_cons_of_mem _ hy)
    simp only [List.map_cons, lcGo, bindE, bYes, h1]
    rw [h2]
theorem lc_filter {α : Type} {env : En} {i : Nat} {ft : Fe Bool} {fe : FE} {n : Nat} (enc : α → D) (p : α → Bool) (g : α → D) : ∀ (xs : List α), (∀ x ∈ xs, ft (env.set i (some (enc x))) n = some (p x, n)) → (∀ x ∈ xs, p x = true → fe (env.set i (some (enc x))) n = some (g x, n)) →
    lcGo env (.nm i) ft fe (xs.map enc) n = some ((xs.filter p).map g, n)
  | [], _, _ => rfl
  | x :: r, h, h' => by
    have h1 := h x List.mem_cons_self
    have h2 := lc_filter (i := i) (ft := ft) (fe := fe) enc p g r (fun y hy => h y (List.mem_cons_of_mem _ hy)) fun y hy => h' y (List.mem_cons_of_mem _ hy)
    cases hp : p x with
    | true =>
      have h3 := h' x List.mem_cons_self hp
      rw [hp] at h1
      simp only [List.map_cons, lcGo, bindE, h1, h3, h2, List.filter_cons, hp, if_true]
    | false =>
      rw [hp] at h1
      simp only [List.map_cons, lcGo, bindE, h1, h2, List.filter_cons, hp]
      rfl
theorem lc_mapD {env : En} {i : Nat} {fe : FE} {n : Nat} (g : D → D) (xs : List D) (h : ∀ x ∈ xs, fe (env.set i (some x)) n = some (g x, n)) : lcGo env (.nm i) bYes fe xs n = some (xs.map g, n) := by
  have := lc_map (i := i) (fe := fe) (env := env) id g xs h
  rw [List.map_id] at this
  exact this
theorem lc_filterD {env : En} {i : Nat} {ft : Fe Bool} {fe : FE} {n : Nat} (p : D → Bool) (g : D → D) (xs : List D) (h : ∀ x ∈ xs, ft (env.set i (some x)) n = some (p x, n)) (h' : ∀ x ∈ xs, p x = true → fe (env.set i (some x)) n = some (g x, n)) : lcGo env (.nm i) ft fe xs n = some ((xs.filter p).map g, n) := by
  have := lc_filter (i := i) (ft := ft) (fe := fe) (env := env) id p g xs h h'
  rw [List.map_id] at this
  exact this
/-! ### data without dicts -/
mutual
def pl : D → Bool
  | .dict _ => false
  | .list ds => plL ds
  | .tuple ds => plL ds
  | .none | .bool _ | .int _ | .str _ => true
def plL : List D → Bool
  | [] => true
  | d :: ds => pl d && plL ds
end
theorem plL_mem : ∀ {ds : List D}, plL ds = true → ∀ d ∈ ds, pl d = true
  | [], _, d, h => by cases h
  | e :: r, h, d, hd => by
    rw [plL, Bool.and_eq_true] at h
    rcases List.mem_cons.mp hd with rfl | hd
    · exact h.1
    · exact plL_mem h.2 d hd
theorem plL_all {ds : List D} (h : ∀ d ∈ ds, pl d = true) : plL ds = true := by
  induction ds with
  | nil => rfl
  | cons d r ih => rw [plL, h d List.mem_cons_self, ih fun e he => h e (List.mem_cons_of_mem _ he)]; rfl
theorem ints?_mapI (ns : List Int) : ints? (ns.map PyData.int) = some ns := ints?_map ns
theorem rngD_eq (n : Nat) : rngD 0 n = (List.range n).map fun i => PyData.int ((i : Nat) : Int) := by
  unfold rngD
  apply List.map_congr_left
  intro i _
  rw [Int.zero_add]
/-! ### matrices of ints as data -/
abbrev Row := List Int
abbrev Mt := List (List Int)
def encR (r : Row) : D := .tuple (r.map .int)
def encM (m : Mt) : D := .tuple (m.map encR)
/-! ### the draws -/
theorem lim_val : lim = 16777216 := rfl

def isI (d : D) (lo hi : Int) : Bool := match d with
  | .int i => decide (lo ≤ i) && decide (i ≤ hi)
  | _ => false
theorem is_integer_eq (d : D) (lo hi : Int) (n : Nat) (h : pl d = true) : m_is_integer [d, .int lo, .int hi] n = some (.ok (.bool (isI d lo hi)), n) := by
  cases d with
  | dict _ => simp [pl] at h
  | int i =>
    by_cases h1 : lo ≤ i
    · simp [m_is_integer, b_is_integer, mkF, mkL, start0, sSeq, sIf, sRet, sSet, sSetH, sOwn, sOwnH, sSkip, sFrz, frzS, sRaise, sCallX, sRetX, eVar, eC, e1, e2, eL, aCons, aNil, aLim, bV, bAnd, bOr, bNot, eAnd, eOr, eNot, eIf, oNone, oSome, eSl, eChain, eCall, eCallL, eList, frzE, hidE, frz1_val, frz1_own, frz1_own2, frz1_none, hid1_val, hid1_own, hid1_own2, hid1_none, c1, List.map_cons, List.map_nil, List.map_append, List.map_replicate, List.replicate_succ, List.replicate_zero, List.append_eq, List.nil_append, List.cons_append, List.append_nil, List.getElem?_cons_zero, List.getElem?_cons_succ, List.set_cons_zero, List.set_cons_succ, List.length_cons, List.length_nil, Option.map_some, Option.map_none, Option.bind_some, Option.bind_none, if_true, if_false, reduceCtorEq, Nat.reduceAdd, Nat.reduceEqDiff, ite_true, ite_false, ↓reduceIte, and_true, true_and, dIsi, isTy, dLe, dCmp, isI, h1]
    · simp [m_is_integer, b_is_integer, mkF, mkL, start0, sSeq, sIf, sRet, sSet, sSetH, sOwn, sOwnH, sSkip, sFrz, frzS, sRaise, sCallX, sRetX, eVar, eC, e1, e2, eL, aCons, aNil, aLim, bV, bAnd, bOr, bNot, eAnd, eOr, eNot, eIf, oNone, oSome, eSl, eChain, eCall, eCallL, eList, frzE, hidE, frz1_val, frz1_own, frz1_own2, frz1_none, hid1_val, hid1_own, hid1_own2, hid1_none, c1, List.map_cons, List.map_nil, List.map_append, List.map_replicate, List.replicate_succ, List.replicate_zero, List.append_eq, List.nil_append, List.cons_append, List.append_nil, List.getElem?_cons_zero, List.getElem?_cons_succ, List.set_cons_zero, List.set_cons_succ, List.length_cons, List.length_nil, Option.map_some, Option.map_none, Option.bind_some, Option.bind_none, if_true, if_false, reduceCtorEq, Nat.reduceAdd, Nat.reduceEqDiff, ite_true, ite_false, ↓reduceIte, and_true, true_and, dIsi, isTy, dLe, dCmp, isI, h1]
  | _ => simp [m_is_integer, b_is_integer, mkF, mkL, start0, sSeq, sIf, sRet, sSet, sSetH, sOwn, sOwnH, sSkip, sFrz, frzS, sRaise, sCallX, sRetX, eVar, eC, e1, e2, eL, aCons, aNil, aLim, bV, bAnd, bOr, bNot, eAnd, eOr, eNot, eIf, oNone, oSome, eSl, eChain, eCall, eCallL, eList, frzE, hidE, frz1_val, frz1_own, frz1_own2, frz1_none, hid1_val, hid1_own, hid1_own2, hid1_none, c1, List.map_cons, List.map_nil, List.map_append, List.map_replicate, List.replicate_succ, List.replicate_zero, List.append_eq, List.nil_append, List.cons_append, List.append_nil, List.getElem?_cons_zero, List.getElem?_cons_succ, List.set_cons_zero, List.set_cons_succ, List.length_cons, List.length_nil, Option.map_some, Option.map_none, Option.bind_some, Option.bind_none, if_true, if_false, reduceCtorEq, Nat.reduceAdd, Nat.reduceEqDiff, ite_true, ite_false, ↓reduceIte, and_true, true_and, dIsi, isTy, dLe, dCmp, isI]
def isRw (c lo hi : Int) (d : D) : Bool := match d with
  | .tuple xs => decide ((xs.length : Int) = c) && xs.all fun x => isI x lo hi
  | _ => false
def isSq (d : D) (c lo hi : Int) : Bool := match d with
  | .tuple rows => decide ((rows.length : Int) = c) && rows.all (isRw c lo hi)
  | _ => false
theorem ne_int (a b : Int) : dNe (.int a) (.int b) = some (.bool (!decide (a = b))) := by
  simp [dNe, SeqAt.shaped, PyData.canLay0, PyData.depth, PyData.eqv, BEq.beq]
theorem eq_int' (a b : Int) : dEq (.int a) (.int b) = some (.bool (decide (a = b))) := by
  simp [dEq, SeqAt.shaped, PyData.canLay0, PyData.depth, PyData.eqv, BEq.beq]
theorem isq_body (c lo hi : Int) (x d : D) (s5 : Option SV) (n : Nat) (h : pl x = true) :
    (sIf (bOr (bNot (bV (e1 (dIsi "tuple") (eVar 4)))) (bOr (bV (e2 dNe (eL (c1 dLen) (aCons (eVar 4) aNil)) (eVar 1))) (bNot (bV (eL (c1 dAll) (aCons (eList (eLc [5] (iS (eVar 4)) (.nm 5) bYes (eCall m_is_integer (aCons (eVar 5) (aCons (eVar 2) (aCons (eVar 3) aNil)))))) aNil))))))
      (sRet (eC (.bool false))) sSkip) [some (.val d), some (.val (.int c)), some (.val (.int lo)), some (.val (.int hi)), some (.val x), s5] n
    = if isRw c lo hi x then some (.nx [some (.val d), some (.val (.int c)), some (.val (.int lo)), some (.val (.int hi)), some (.val x), s5], n) else some (.rt (.bool false), n) := by
  cases x with
  | dict _ => simp [pl] at h
  | tuple xs =>
    rw [pl] at h
    have hl : lcGo (wipeE [some d, some (.int c), some (.int lo), some (.int hi), some (.tuple xs), frz1 s5] [5]) (.nm 5) bYes (eCall m_is_integer (aCons (eVar 5) (aCons (eVar 2) (aCons (eVar 3) aNil)))) xs n = some (xs.map fun y => .bool (isI y lo hi), n) := by
      refine lc_mapD _ xs fun y hy => ?_
      simp [mkF, mkL, start0, sSeq, sIf, sRet, sSet, sSetH, sOwn, sOwnH, sSkip, sFrz, frzS, sRaise, sCallX, sRetX, eVar, eC, e1, e2, eL, aCons, aNil, aLim, bV, bAnd, bOr, bNot, eAnd, eOr, eNot, eIf, oNone, oSome, eSl, eChain, eCall, eCallL, eList, frzE, hidE, frz1_val, frz1_own, frz1_own2, frz1_none, hid1_val, hid1_own, hid1_own2, hid1_none, c1, List.map_cons, List.map_nil, List.map_append, List.map_replicate, List.replicate_succ, List.replicate_zero, List.append_eq, List.nil_append, List.cons_append, List.append_nil, List.getElem?_cons_zero, List.getElem?_cons_succ, List.set_cons_zero, List.set_cons_succ, List.length_cons, List.length_nil, Option.map_some, Option.map_none, Option.bind_some, Option.bind_none, if_true, if_false, reduceCtorEq, Nat.reduceAdd, Nat.reduceEqDiff, ite_true, ite_false, ↓reduceIte, and_true, true_and, wipeE, is_integer_eq y lo hi n (plL_mem h y hy)]
    by_cases h1 : (xs.length : Int) = c
    · by_cases h2 : (xs.all fun x => isI x lo hi) = true
      · have h3 : ((xs.map fun y => isI y lo hi).all id) = true := by rw [List.all_map]; exact h2
        simp [mkF, mkL, start0, sSeq, sIf, sRet, sSet, sSetH, sOwn, sOwnH, sSkip, sFrz, frzS, sRaise, sCallX, sRetX, eVar, eC, e1, e2, eL, aCons, aNil, aLim, bV, bAnd, bOr, bNot, eAnd, eOr, eNot, eIf, oNone, oSome, eSl, eChain, eCall, eCallL, eList, frzE, hidE, frz1_val, frz1_own, frz1_own2, frz1_none, hid1_val, hid1_own, hid1_own2, hid1_none, c1, List.map_cons, List.map_nil, List.map_append, List.map_replicate, List.replicate_succ, List.replicate_zero, List.append_eq, List.nil_append, List.cons_append, List.append_nil, List.getElem?_cons_zero, List.getElem?_cons_succ, List.set_cons_zero, List.set_cons_succ, List.length_cons, List.length_nil, Option.map_some, Option.map_none, Option.bind_some, Option.bind_none, if_true, if_false, reduceCtorEq, Nat.reduceAdd, Nat.reduceEqDiff, ite_true, ite_false, ↓reduceIte, and_true, true_and, dIsi, isTy, dLen, ne_int, eLc, iS, hl, dAll, lst?, h1, isRw, h2]
        rw [show (xs.map fun y => PyData.bool (isI y lo hi)) = (xs.map fun y => isI y lo hi).map .bool by simp, bools?_map]
        simp [h3]
      · have h3 : ((xs.map fun y => isI y lo hi).all id) = false := by rw [List.all_map]; simpa using h2
        simp [mkF, mkL, start0, sSeq, sIf, sRet, sSet, sSetH, sOwn, sOwnH, sSkip, sFrz, frzS, sRaise, sCallX, sRetX, eVar, eC, e1, e2, eL, aCons, aNil, aLim, bV, bAnd, bOr, bNot, eAnd, eOr, eNot, eIf, oNone, oSome, eSl, eChain, eCall, eCallL, eList, frzE, hidE, frz1_val, frz1_own, frz1_own2, frz1_none, hid1_val, hid1_own, hid1_own2, hid1_none, c1, List.map_cons, List.map_nil, List.map_append, List.map_replicate, List.replicate_succ, List.replicate_zero, List.append_eq, List.nil_append, List.cons_append, List.append_nil, List.getElem?_cons_zero, List.getElem?_cons_succ, List.set_cons_zero, List.set_cons_succ, List.length_cons, List.length_nil, Option.map_some, Option.map_none, Option.bind_some, Option.bind_none, if_true, if_false, reduceCtorEq, Nat.reduceAdd, Nat.reduceEqDiff, ite_true, ite_false, ↓reduceIte, and_true, true_and, dIsi, isTy, dLen, ne_int, eLc, iS, hl, dAll, lst?, h1, isRw, h2]
        rw [show (xs.map fun y => PyData.bool (isI y lo hi)) = (xs.map fun y => isI y lo hi).map .bool by simp, bools?_map]
        simp [h3]
    · simp [mkF, mkL, start0, sSeq, sIf, sRet, sSet, sSetH, sOwn, sOwnH, sSkip, sFrz, frzS, sRaise, sCallX, sRetX, eVar, eC, e1, e2, eL, aCons, aNil, aLim, bV, bAnd, bOr, bNot, eAnd, eOr, eNot, eIf, oNone, oSome, eSl, eChain, eCall, eCallL, eList, frzE, hidE, frz1_val, frz1_own, frz1_own2, frz1_none, hid1_val, hid1_own, hid1_own2, hid1_none, c1, List.map_cons, List.map_nil, List.map_append, List.map_replicate, List.replicate_succ, List.replicate_zero, List.append_eq, List.nil_append, List.cons_append, List.append_nil, List.getElem?_cons_zero, List.getElem?_cons_succ, List.set_cons_zero, List.set_cons_succ, List.length_cons, List.length_nil, Option.map_some, Option.map_none, Option.bind_some, Option.bind_none, if_true, if_false, reduceCtorEq, Nat.reduceAdd, Nat.reduceEqDiff, ite_true, ite_false, ↓reduceIte, and_true, true_and, dIsi, isTy, dLen, ne_int, h1, isRw]
  | _ => simp [mkF, mkL, start0, sSeq, sIf, sRet, sSet, sSetH, sOwn, sOwnH, sSkip, sFrz, frzS, sRaise, sCallX, sRetX, eVar, eC, e1, e2, eL, aCons, aNil, aLim, bV, bAnd, bOr, bNot, eAnd, eOr, eNot, eIf, oNone, oSome, eSl, eChain, eCall, eCallL, eList, frzE, hidE, frz1_val, frz1_own, frz1_own2, frz1_none, hid1_val, hid1_own, hid1_own2, hid1_none, c1, List.map_cons, List.map_nil, List.map_append, List.map_replicate, List.replicate_succ, List.replicate_zero, List.append_eq, List.nil_append, List.cons_append, List.append_nil, List.getElem?_cons_zero, List.getElem?_cons_succ, List.set_cons_zero, List.set_cons_succ, List.length_cons, List.length_nil, Option.map_some, Option.map_none, Option.bind_some, Option.bind_none, if_true, if_false, reduceCtorEq, Nat.reduceAdd, Nat.reduceEqDiff, ite_true, ite_false, ↓reduceIte, and_true, true_and, dIsi, isTy, isRw]

theorem isq_loop (c lo hi : Int) (d : D) (n : Nat) : ∀ (rows : List D) (s4 : Option SV), plL rows = true →
    forGo (.nm 4) (sIf (bOr (bNot (bV (e1 (dIsi "tuple") (eVar 4)))) (bOr (bV (e2 dNe (eL (c1 dLen) (aCons (eVar 4) aNil)) (eVar 1))) (bNot (bV (eL (c1 dAll) (aCons (eList (eLc [5] (iS (eVar 4)) (.nm 5) bYes (eCall m_is_integer (aCons (eVar 5) (aCons (eVar 2) (aCons (eVar 3) aNil)))))) aNil))))))
      (sRet (eC (.bool false))) sSkip) rows [some (.val d), some (.val (.int c)), some (.val (.int lo)), some (.val (.int hi)), s4, none] n
    = if rows.all (isRw c lo hi) then some (.nx [some (.val d), some (.val (.int c)), some (.val (.int lo)), some (.val (.int hi)), (rows.getLast?.map SV.val).or s4, none], n) else some (.rt (.bool false), n)
  | [], s4, _ => by simp [forGo]
  | x :: r, s4, h => by
    rw [plL, Bool.and_eq_true] at h
    have ih := isq_loop c lo hi d n r (some (.val x)) h.2
    have hb := isq_body c lo hi x d none n h.1
    unfold forGo
    simp only [bindS, List.set_cons_succ, List.set_cons_zero, hb]
    by_cases hx : isRw c lo hi x = true
    · simp only [hx, if_true, ih, List.all_cons, Bool.true_and]
      cases hr : r.getLast? with
      | none =>
        have : r = [] := List.getLast?_eq_none_iff.mp hr
        subst this
        simp
      | some z => 
        simp [List.getLast?_cons, hr]
    · simp [hx]
theorem is_square_of_eq (d : D) (c lo hi : Int) (n : Nat) (h : pl d = true) : m_is_square_of [d, .int c, .int lo, .int hi] n = some (.ok (.bool (isSq d c lo hi)), n) := by
  cases d with
  | dict _ => simp [pl] at h
  | tuple rows =>
    rw [pl] at h
    by_cases h1 : (rows.length : Int) = c
    · have hl := isq_loop c lo hi (.tuple rows) n rows none h
      simp [m_is_square_of, b_is_square_of, mkF, mkL, start0, sSeq, sIf, sRet, sSet, sSetH, sOwn, sOwnH, sSkip, sFrz, frzS, sRaise, sCallX, sRetX, eVar, eC, e1, e2, eL, aCons, aNil, aLim, bV, bAnd, bOr, bNot, eAnd, eOr, eNot, eIf, oNone, oSome, eSl, eChain, eCall, eCallL, eList, frzE, hidE, frz1_val, frz1_own, frz1_own2, frz1_none, hid1_val, hid1_own, hid1_own2, hid1_none, c1, List.map_cons, List.map_nil, List.map_append, List.map_replicate, List.replicate_succ, List.replicate_zero, List.append_eq, List.nil_append, List.cons_append, List.append_nil, List.getElem?_cons_zero, List.getElem?_cons_succ, List.set_cons_zero, List.set_cons_succ, List.length_cons, List.length_nil, Option.map_some, Option.map_none, Option.bind_some, Option.bind_none, if_true, if_false, reduceCtorEq, Nat.reduceAdd, Nat.reduceEqDiff, ite_true, ite_false, ↓reduceIte, and_true, true_and, dIsi, isTy, dLen, ne_int, h1, sFor, iS]
      rw [hl]
      by_cases h2 : rows.all (isRw c lo hi) = true
      · simp [h2, isSq, h1]
      · simp [h2, isSq, h1]
    · simp [m_is_square_of, b_is_square_of, mkF, mkL, start0, sSeq, sIf, sRet, sSet, sSetH, sOwn, sOwnH, sSkip, sFrz, frzS, sRaise, sCallX, sRetX, eVar, eC, e1, e2, eL, aCons, aNil, aLim, bV, bAnd, bOr, bNot, eAnd, eOr, eNot, eIf, oNone, oSome, eSl, eChain, eCall, eCallL, eList, frzE, hidE, frz1_val, frz1_own, frz1_own2, frz1_none, hid1_val, hid1_own, hid1_own2, hid1_none, c1, List.map_cons, List.map_nil, List.map_append, List.map_replicate, List.replicate_succ, List.replicate_zero, List.append_eq, List.nil_append, List.cons_append, List.append_nil, List.getElem?_cons_zero, List.getElem?_cons_succ, List.set_cons_zero, List.set_cons_succ, List.length_cons, List.length_nil, Option.map_some, Option.map_none, Option.bind_some, Option.bind_none, if_true, if_false, reduceCtorEq, Nat.reduceAdd, Nat.reduceEqDiff, ite_true, ite_false, ↓reduceIte, and_true, true_and, dIsi, isTy, dLen, ne_int, h1, isSq]
  | _ => simp [m_is_square_of, b_is_square_of, mkF, mkL, start0, sSeq, sIf, sRet, sSet, sSetH, sOwn, sOwnH, sSkip, sFrz, frzS, sRaise, sCallX, sRetX, eVar, eC, e1, e2, eL, aCons, aNil, aLim, bV, bAnd, bOr, bNot, eAnd, eOr, eNot, eIf, oNone, oSome, eSl, eChain, eCall, eCallL, eList, frzE, hidE, frz1_val, frz1_own, frz1_own2, frz1_none, hid1_val, hid1_own, hid1_own2, hid1_none, c1, List.map_cons, List.map_nil, List.map_append, List.map_replicate, List.replicate_succ, List.replicate_zero, List.append_eq, List.nil_append, List.cons_append, List.append_nil, List.getElem?_cons_zero, List.getElem?_cons_succ, List.set_cons_zero, List.set_cons_succ, List.length_cons, List.length_nil, Option.map_some, Option.map_none, Option.bind_some, Option.bind_none, if_true, if_false, reduceCtorEq, Nat.reduceAdd, Nat.reduceEqDiff, ite_true, ite_false, ↓reduceIte, and_true, true_and, dIsi, isTy, isSq]
def isMat (d : D) : Bool := match d with
  | .tuple rows => decide (1 ≤ rows.length) && decide (rows.length ≤ 5) && isSq d rows.length 0 9
  | _ => false
theorem is_matrix_eq (d : D) (n : Nat) (h : pl d = true) : m_is_matrix [d] n = some (.ok (.bool (isMat d)), n) := by
  cases d with
  | dict _ => simp [pl] at h
  | tuple rows =>
    have h3 := is_square_of_eq (.tuple rows) rows.length 0 9 n h
    by_cases h1 : (1 : Int) ≤ rows.length
    · by_cases h2 : (rows.length : Int) ≤ 5
      · have h1' : 1 ≤ rows.length := by omega
        have h2' : rows.length ≤ 5 := by omega
        simp [m_is_matrix, b_is_matrix, mkF, mkL, start0, sSeq, sIf, sRet, sSet, sSetH, sOwn, sOwnH, sSkip, sFrz, frzS, sRaise, sCallX, sRetX, eVar, eC, e1, e2, eL, aCons, aNil, aLim, bV, bAnd, bOr, bNot, eAnd, eOr, eNot, eIf, oNone, oSome, eSl, eChain, eCall, eCallL, eList, frzE, hidE, frz1_val, frz1_own, frz1_own2, frz1_none, hid1_val, hid1_own, hid1_own2, hid1_none, c1, List.map_cons, List.map_nil, List.map_append, List.map_replicate, List.replicate_succ, List.replicate_zero, List.append_eq, List.nil_append, List.cons_append, List.append_nil, List.getElem?_cons_zero, List.getElem?_cons_succ, List.set_cons_zero, List.set_cons_succ, List.length_cons, List.length_nil, Option.map_some, Option.map_none, Option.bind_some, Option.bind_none, if_true, if_false, reduceCtorEq, Nat.reduceAdd, Nat.reduceEqDiff, ite_true, ite_false, ↓reduceIte, and_true, true_and, dIsi, isTy, dLen, dLe, dCmp, h1, h2, h3, isMat, h1', h2']
      · have h2' : ¬ rows.length ≤ 5 := by omega
        simp [m_is_matrix, b_is_matrix, mkF, mkL, start0, sSeq, sIf, sRet, sSet, sSetH, sOwn, sOwnH, sSkip, sFrz, frzS, sRaise, sCallX, sRetX, eVar, eC, e1, e2, eL, aCons, aNil, aLim, bV, bAnd, bOr, bNot, eAnd, eOr, eNot, eIf, oNone, oSome, eSl, eChain, eCall, eCallL, eList, frzE, hidE, frz1_val, frz1_own, frz1_own2, frz1_none, hid1_val, hid1_own, hid1_own2, hid1_none, c1, List.map_cons, List.map_nil, List.map_append, List.map_replicate, List.replicate_succ, List.replicate_zero, List.append_eq, List.nil_append, List.cons_append, List.append_nil, List.getElem?_cons_zero, List.getElem?_cons_succ, List.set_cons_zero, List.set_cons_succ, List.length_cons, List.length_nil, Option.map_some, Option.map_none, Option.bind_some, Option.bind_none, if_true, if_false, reduceCtorEq, Nat.reduceAdd, Nat.reduceEqDiff, ite_true, ite_false, ↓reduceIte, and_true, true_and, dIsi, isTy, dLen, dLe, dCmp, h1, h2, isMat, h2']
    · have h1' : ¬ 1 ≤ rows.length := by omega
      simp [m_is_matrix, b_is_matrix, mkF, mkL, start0, sSeq, sIf, sRet, sSet, sSetH, sOwn, sOwnH, sSkip, sFrz, frzS, sRaise, sCallX, sRetX, eVar, eC, e1, e2, eL, aCons, aNil, aLim, bV, bAnd, bOr, bNot, eAnd, eOr, eNot, eIf, oNone, oSome, eSl, eChain, eCall, eCallL, eList, frzE, hidE, frz1_val, frz1_own, frz1_own2, frz1_none, hid1_val, hid1_own, hid1_own2, hid1_none, c1, List.map_cons, List.map_nil, List.map_append, List.map_replicate, List.replicate_succ, List.replicate_zero, List.append_eq, List.nil_append, List.cons_append, List.append_nil, List.getElem?_cons_zero, List.getElem?_cons_succ, List.set_cons_zero, List.set_cons_succ, List.length_cons, List.length_nil, Option.map_some, Option.map_none, Option.bind_some, Option.bind_none, if_true, if_false, reduceCtorEq, Nat.reduceAdd, Nat.reduceEqDiff, ite_true, ite_false, ↓reduceIte, and_true, true_and, dIsi, isTy, dLen, dLe, dCmp, h1, isMat, h1']
  | _ => simp [m_is_matrix, b_is_matrix, mkF, mkL, start0, sSeq, sIf, sRet, sSet, sSetH, sOwn, sOwnH, sSkip, sFrz, frzS, sRaise, sCallX, sRetX, eVar, eC, e1, e2, eL, aCons, aNil, aLim, bV, bAnd, bOr, bNot, eAnd, eOr, eNot, eIf, oNone, oSome, eSl, eChain, eCall, eCallL, eList, frzE, hidE, frz1_val, frz1_own, frz1_own2, frz1_none, hid1_val, hid1_own, hid1_own2, hid1_none, c1, List.map_cons, List.map_nil, List.map_append, List.map_replicate, List.replicate_succ, List.replicate_zero, List.append_eq, List.nil_append, List.cons_append, List.append_nil, List.getElem?_cons_zero, List.getElem?_cons_succ, List.set_cons_zero, List.set_cons_succ, List.length_cons, List.length_nil, Option.map_some, Option.map_none, Option.bind_some, Option.bind_none, if_true, if_false, reduceCtorEq, Nat.reduceAdd, Nat.reduceEqDiff, ite_true, ite_false, ↓reduceIte, and_true, true_and, dIsi, isTy, isMat]
theorem check_matrix_eq (d : D) (n : Nat) (h : pl d = true) : m_check_matrix [d] n = some (if isMat d then .ok .none else .ex "InvalidMatrix", n) := by
  have h3 := is_matrix_eq d n h
  cases hm : isMat d with
  | true => simp [m_check_matrix, b_check_matrix, mkF, mkL, start0, sSeq, sIf, sRet, sSet, sSetH, sOwn, sOwnH, sSkip, sFrz, frzS, sRaise, sCallX, sRetX, eVar, eC, e1, e2, eL, aCons, aNil, aLim, bV, bAnd, bOr, bNot, eAnd, eOr, eNot, eIf, oNone, oSome, eSl, eChain, eCall, eCallL, eList, frzE, hidE, frz1_val, frz1_own, frz1_own2, frz1_none, hid1_val, hid1_own, hid1_own2, hid1_none, c1, List.map_cons, List.map_nil, List.map_append, List.map_replicate, List.replicate_succ, List.replicate_zero, List.append_eq, List.nil_append, List.cons_append, List.append_nil, List.getElem?_cons_zero, List.getElem?_cons_succ, List.set_cons_zero, List.set_cons_succ, List.length_cons, List.length_nil, Option.map_some, Option.map_none, Option.bind_some, Option.bind_none, if_true, if_false, reduceCtorEq, Nat.reduceAdd, Nat.reduceEqDiff, ite_true, ite_false, ↓reduceIte, and_true, true_and, h3, hm]
  | false => simp [m_check_matrix, b_check_matrix, mkF, mkL, start0, sSeq, sIf, sRet, sSet, sSetH, sOwn, sOwnH, sSkip, sFrz, frzS, sRaise, sCallX, sRetX, eVar, eC, e1, e2, eL, aCons, aNil, aLim, bV, bAnd, bOr, bNot, eAnd, eOr, eNot, eIf, oNone, oSome, eSl, eChain, eCall, eCallL, eList, frzE, hidE, frz1_val, frz1_own, frz1_own2, frz1_none, hid1_val, hid1_own, hid1_own2, hid1_none, c1, List.map_cons, List.map_nil, List.map_append, List.map_replicate, List.replicate_succ, List.replicate_zero, List.append_eq, List.nil_append, List.cons_append, List.append_nil, List.getElem?_cons_zero, List.getElem?_cons_succ, List.set_cons_zero, List.set_cons_succ, List.length_cons, List.length_nil, Option.map_some, Option.map_none, Option.bind_some, Option.bind_none, if_true, if_false, reduceCtorEq, Nat.reduceAdd, Nat.reduceEqDiff, ite_true, ite_false, ↓reduceIte, and_true, true_and, h3, hm]
/-! ### matrices -/
structure Mv (m : Mt) : Prop where
  pos : 1 ≤ m.length
  le : m.length ≤ 5
  sq : ∀ r ∈ m, r.length = m.length
  rng : ∀ r ∈ m, ∀ x ∈ r, 0 ≤ x ∧ x ≤ 9
theorem pl_row (r : Row) : pl (encR r) = true := by
  unfold encR
  rw [pl]
  exact plL_all fun d hd => by
    obtain ⟨x, _, rfl⟩ := List.mem_map.mp hd
    rfl
theorem pl_mat (m : Mt) : pl (encM m) = true := by
  unfold encM
  rw [pl]
  exact plL_all fun d hd => by
    obtain ⟨x, _, rfl⟩ := List.mem_map.mp hd
    exact pl_row x
theorem isRw_row {c lo hi : Int} {r : Row} (h1 : (r.length : Int) = c) (h2 : ∀ x ∈ r, lo ≤ x ∧ x ≤ hi) : isRw c lo hi (encR r) = true := by
  unfold encR isRw
  simp only [List.length_map, h1, decide_true, Bool.true_and]
  rw [List.all_map, List.all_eq_true]
  intro x hx
  simp [isI, h2 x hx]
theorem isMat_enc {m : Mt} (h : Mv m) : isMat (encM m) = true := by
  unfold encM isMat isSq
  simp only [List.length_map, h.pos, h.le, decide_true, Bool.true_and]
  rw [List.all_eq_true]
  intro d hd
  obtain ⟨r, hr, rfl⟩ := List.mem_map.mp hd
  exact isRw_row (by rw [h.sq r hr]) (h.rng r hr)
def colSum (m : Mt) (j : Nat) : Int := (m.map fun r => r.getD j 0).sum
def lineSums (m : Mt) : List Int := m.map List.sum ++ (List.range m.length).map (colSum m)
theorem sum_row (r : Row) : dSum (encR r) = some (.int r.sum) := by
  unfold encR dSum seq?
  simp [ints?_mapI]
theorem sum_ints (r : Row) : dSum (.list (r.map .int)) = some (.int r.sum) := by
  unfold dSum seq?
  simp [ints?_mapI]
theorem atI_nat' {α : Type} {xs : List α} {j : Nat} (h : j < xs.length) : atI xs (j : Int) = some xs[j] := atI_nat (List.getElem?_eq_getElem h)
theorem ix_row {r : Row} {j : Nat} (h : j < r.length) : dIx (encR r) (.int (j : Int)) = some (.int (r.getD j 0)) := by
  unfold encR dIx
  simp only
  rw [atI_map, atI_nat' h]
  simp [List.getD, List.getElem?_eq_getElem h]
theorem add_list {a b : List D} (h : a.length + b.length ≤ lim) : dAdd (.list a) (.list b) = some (.list (a ++ b)) := by
  simp [dAdd, h]
theorem line_sums_eq {m : Mt} (hsq : ∀ r ∈ m, r.length = m.length) (hl : m.length ≤ 1000) (n : Nat) : m_line_sums [encM m] n = some (.ok (.list ((lineSums m).map .int)), n) := by
  have e1 : lcGo (wipeE [some (encM m), none, none] [1]) (.nm 1) bYes (eL (c1 dSum) (aCons (eVar 1) aNil)) (m.map encR) n = some (m.map fun r => .int r.sum, n) := by
    refine lc_map _ _ m fun r hr => ?_
    simp [mkF, mkL, start0, sSeq, sIf, sRet, sSet, sSetH, sOwn, sOwnH, sSkip, sFrz, frzS, sRaise, sCallX, sRetX, eVar, eC, e1, e2, eL, aCons, aNil, aLim, bV, bAnd, bOr, bNot, eAnd, eOr, eNot, eIf, oNone, oSome, eSl, eChain, eCall, eCallL, eList, frzE, hidE, frz1_val, frz1_own, frz1_own2, frz1_none, hid1_val, hid1_own, hid1_own2, hid1_none, c1, List.map_cons, List.map_nil, List.map_append, List.map_replicate, List.replicate_succ, List.replicate_zero, List.append_eq, List.nil_append, List.cons_append, List.append_nil, List.getElem?_cons_zero, List.getElem?_cons_succ, List.set_cons_zero, List.set_cons_succ, List.length_cons, List.length_nil, Option.map_some, Option.map_none, Option.bind_some, Option.bind_none, if_true, if_false, reduceCtorEq, Nat.reduceAdd, Nat.reduceEqDiff, ite_true, ite_false, ↓reduceIte, and_true, true_and, wipeE, sum_row]
  have e2' : ∀ j < m.length, lcGo (wipeE [some (encM m), none, some (.int (j : Int))] [1]) (.nm 1) bYes (e2 dIx (eVar 1) (eVar 2)) (m.map encR) n = some (m.map fun r => .int (r.getD j 0), n) := by
    intro j hj
    refine lc_map _ _ m fun r hr => ?_
    simp [mkF, mkL, start0, sSeq, sIf, sRet, sSet, sSetH, sOwn, sOwnH, sSkip, sFrz, frzS, sRaise, sCallX, sRetX, eVar, eC, e1, e2, eL, aCons, aNil, aLim, bV, bAnd, bOr, bNot, eAnd, eOr, eNot, eIf, oNone, oSome, eSl, eChain, eCall, eCallL, eList, frzE, hidE, frz1_val, frz1_own, frz1_own2, frz1_none, hid1_val, hid1_own, hid1_own2, hid1_none, c1, List.map_cons, List.map_nil, List.map_append, List.map_replicate, List.replicate_succ, List.replicate_zero, List.append_eq, List.nil_append, List.cons_append, List.append_nil, List.getElem?_cons_zero, List.getElem?_cons_succ, List.set_cons_zero, List.set_cons_succ, List.length_cons, List.length_nil, Option.map_some, Option.map_none, Option.bind_some, Option.bind_none, if_true, if_false, reduceCtorEq, Nat.reduceAdd, Nat.reduceEqDiff, ite_true, ite_false, ↓reduceIte, and_true, true_and, wipeE, ix_row (r := r) (j := j) (by rw [hsq r hr]; exact hj)]
  have e3 : lcGo (wipeE [some (encM m), none, none] [2]) (.nm 2) bYes (eL (c1 dSum) (aCons (eList (eLc [1] (iS (eVar 0)) (.nm 1) bYes (e2 dIx (eVar 1) (eVar 2)))) aNil)) (rngD 0 m.length) n = some ((List.range m.length).map fun j => .int (colSum m j), n) := by
    rw [rngD_eq]
    refine lc_map _ _ _ fun j hj => ?_
    have hj' := List.mem_range.mp hj
    have e4 := e2' j hj'
    simp only [wipeE, List.set_cons_succ, List.set_cons_zero] at e4
    simp [mkF, mkL, start0, sSeq, sIf, sRet, sSet, sSetH, sOwn, sOwnH, sSkip, sFrz, frzS, sRaise, sCallX, sRetX, eVar, eC, e1, e2, eL, aCons, aNil, aLim, bV, bAnd, bOr, bNot, eAnd, eOr, eNot, eIf, oNone, oSome, eSl, eChain, eCall, eCallL, eList, frzE, hidE, frz1_val, frz1_own, frz1_own2, frz1_none, hid1_val, hid1_own, hid1_own2, hid1_none, c1, List.map_cons, List.map_nil, List.map_append, List.map_replicate, List.replicate_succ, List.replicate_zero, List.append_eq, List.nil_append, List.cons_append, List.append_nil, List.getElem?_cons_zero, List.getElem?_cons_succ, List.set_cons_zero, List.set_cons_succ, List.length_cons, List.length_nil, Option.map_some, Option.map_none, Option.bind_some, Option.bind_none, if_true, if_false, reduceCtorEq, Nat.reduceAdd, Nat.reduceEqDiff, ite_true, ite_false, ↓reduceIte, and_true, true_and, wipeE, eLc, iS, encM]
    rw [show (PyData.tuple (m.map encR)) = encM m from rfl, e4]
    simp only
    rw [show (m.map fun r => PyData.int (r.getD j 0)) = (m.map fun r => r.getD j 0).map .int by simp, sum_ints]
    rfl
  have hlim : (m.map fun r => PyData.int r.sum).length + ((List.range m.length).map fun j => PyData.int (colSum m j)).length ≤ lim := by
    simp [lim_val]; omega
  simp only [wipeE, List.set_cons_succ, List.set_cons_zero] at e1 e3
  simp [m_line_sums, b_line_sums, mkF, mkL, start0, sSeq, sIf, sRet, sSet, sSetH, sOwn, sOwnH, sSkip, sFrz, frzS, sRaise, sCallX, sRetX, eVar, eC, e1, e2, eL, aCons, aNil, aLim, bV, bAnd, bOr, bNot, eAnd, eOr, eNot, eIf, oNone, oSome, eSl, eChain, eCall, eCallL, eList, frzE, hidE, frz1_val, frz1_own, frz1_own2, frz1_none, hid1_val, hid1_own, hid1_own2, hid1_none, c1, List.map_cons, List.map_nil, List.map_append, List.map_replicate, List.replicate_succ, List.replicate_zero, List.append_eq, List.nil_append, List.cons_append, List.append_nil, List.getElem?_cons_zero, List.getElem?_cons_succ, List.set_cons_zero, List.set_cons_succ, List.length_cons, List.length_nil, Option.map_some, Option.map_none, Option.bind_some, Option.bind_none, if_true, if_false, reduceCtorEq, Nat.reduceAdd, Nat.reduceEqDiff, ite_true, ite_false, ↓reduceIte, and_true, true_and, wipeE, eLc, iS, iR1, dLen, encM]
  rw [show (PyData.tuple (m.map encR)) = encM m from rfl, e1]
  simp only [List.length_map]
  rw [if_pos (by rw [lim_val]; omega)]
  simp only [Int.toNat_natCast]
  rw [e3]
  simp only [add_list hlim, Option.map_some, lineSums, List.map_append, List.map_map]
  rfl

theorem max_ints {l : List Int} (h : l ≠ []) : dMax (.list (l.map .int)) = some (.int (maxL l)) := by
  unfold dMax seq?
  cases l with
  | nil => exact absurd rfl h
  | cons a b => simp only [Option.bind_some, ints?_mapI, List.isEmpty_cons]; rfl
theorem min_ints {l : List Int} (h : l ≠ []) : dMin (.list (l.map .int)) = some (.int (minL l)) := by
  unfold dMin seq?
  cases l with
  | nil => exact absurd rfl h
  | cons a b => simp only [Option.bind_some, ints?_mapI, List.isEmpty_cons]; rfl
theorem lineSums_ne {m : Mt} (h : 1 ≤ m.length) : lineSums m ≠ [] := by
  unfold lineSums
  cases m with
  | nil => simp at h
  | cons a b => simp
def deg (m : Mt) : Int := maxL (lineSums m)
def isEv (m : Mt) : Bool := decide (minL (lineSums m) = maxL (lineSums m))
theorem degree_of_eq {m : Mt} (hsq : ∀ r ∈ m, r.length = m.length) (hp : 1 ≤ m.length) (hl : m.length ≤ 1000) (n : Nat) : m_degree_of [encM m] n = some (.ok (.int (deg m)), n) := by
  simp [m_degree_of, b_degree_of, mkF, mkL, start0, sSeq, sIf, sRet, sSet, sSetH, sOwn, sOwnH, sSkip, sFrz, frzS, sRaise, sCallX, sRetX, eVar, eC, e1, e2, eL, aCons, aNil, aLim, bV, bAnd, bOr, bNot, eAnd, eOr, eNot, eIf, oNone, oSome, eSl, eChain, eCall, eCallL, eList, frzE, hidE, frz1_val, frz1_own, frz1_own2, frz1_none, hid1_val, hid1_own, hid1_own2, hid1_none, c1, List.map_cons, List.map_nil, List.map_append, List.map_replicate, List.replicate_succ, List.replicate_zero, List.append_eq, List.nil_append, List.cons_append, List.append_nil, List.getElem?_cons_zero, List.getElem?_cons_succ, List.set_cons_zero, List.set_cons_succ, List.length_cons, List.length_nil, Option.map_some, Option.map_none, Option.bind_some, Option.bind_none, if_true, if_false, reduceCtorEq, Nat.reduceAdd, Nat.reduceEqDiff, ite_true, ite_false, ↓reduceIte, and_true, true_and, line_sums_eq hsq hl, max_ints (lineSums_ne hp), deg]
theorem line_totals_eq {m : Mt} (hsq : ∀ r ∈ m, r.length = m.length) (hl : m.length ≤ 1000) (n : Nat) : m__law_line_totals [encM m] n = some (.ok (.list ((lineSums m).map .int)), n) := by
  have e1 : lcGo (wipeE [some (encM m), none, none, none] [2]) (.nm 2) bYes (eL (c1 dSum) (aCons (eVar 2) aNil)) (m.map encR) n = some (m.map fun r => .int r.sum, n) := by
    refine lc_map _ _ m fun r hr => ?_
    simp [mkF, mkL, start0, sSeq, sIf, sRet, sSet, sSetH, sOwn, sOwnH, sSkip, sFrz, frzS, sRaise, sCallX, sRetX, eVar, eC, e1, e2, eL, aCons, aNil, aLim, bV, bAnd, bOr, bNot, eAnd, eOr, eNot, eIf, oNone, oSome, eSl, eChain, eCall, eCallL, eList, frzE, hidE, frz1_val, frz1_own, frz1_own2, frz1_none, hid1_val, hid1_own, hid1_own2, hid1_none, c1, List.map_cons, List.map_nil, List.map_append, List.map_replicate, List.replicate_succ, List.replicate_zero, List.append_eq, List.nil_append, List.cons_append, List.append_nil, List.getElem?_cons_zero, List.getElem?_cons_succ, List.set_cons_zero, List.set_cons_succ, List.length_cons, List.length_nil, Option.map_some, Option.map_none, Option.bind_some, Option.bind_none, if_true, if_false, reduceCtorEq, Nat.reduceAdd, Nat.reduceEqDiff, ite_true, ite_false, ↓reduceIte, and_true, true_and, wipeE, sum_row]
  have e2' : ∀ (t : D) (j : Nat), j < m.length → lcGo (wipeE [some (encM m), some t, none, some (.int (j : Int))] [2]) (.nm 2) bYes (e2 dIx (eVar 2) (eVar 3)) (m.map encR) n = some (m.map fun r => .int (r.getD j 0), n) := by
    intro t j hj
    refine lc_map _ _ m fun r hr => ?_
    simp [mkF, mkL, start0, sSeq, sIf, sRet, sSet, sSetH, sOwn, sOwnH, sSkip, sFrz, frzS, sRaise, sCallX, sRetX, eVar, eC, e1, e2, eL, aCons, aNil, aLim, bV, bAnd, bOr, bNot, eAnd, eOr, eNot, eIf, oNone, oSome, eSl, eChain, eCall, eCallL, eList, frzE, hidE, frz1_val, frz1_own, frz1_own2, frz1_none, hid1_val, hid1_own, hid1_own2, hid1_none, c1, List.map_cons, List.map_nil, List.map_append, List.map_replicate, List.replicate_succ, List.replicate_zero, List.append_eq, List.nil_append, List.cons_append, List.append_nil, List.getElem?_cons_zero, List.getElem?_cons_succ, List.set_cons_zero, List.set_cons_succ, List.length_cons, List.length_nil, Option.map_some, Option.map_none, Option.bind_some, Option.bind_none, if_true, if_false, reduceCtorEq, Nat.reduceAdd, Nat.reduceEqDiff, ite_true, ite_false, ↓reduceIte, and_true, true_and, wipeE, ix_row (r := r) (j := j) (by rw [hsq r hr]; exact hj)]
  have e3 : ∀ t : D, lcGo (wipeE [some (encM m), some t, none, none] [3]) (.nm 3) bYes (eL (c1 dSum) (aCons (eList (eLc [2] (iS (eVar 0)) (.nm 2) bYes (e2 dIx (eVar 2) (eVar 3)))) aNil)) (rngD 0 m.length) n = some ((List.range m.length).map fun j => .int (colSum m j), n) := by
    intro t
    rw [rngD_eq]
    refine lc_map _ _ _ fun j hj => ?_
    have hj' := List.mem_range.mp hj
    have e4 := e2' t j hj'
    simp only [wipeE, List.set_cons_succ, List.set_cons_zero] at e4
    simp [mkF, mkL, start0, sSeq, sIf, sRet, sSet, sSetH, sOwn, sOwnH, sSkip, sFrz, frzS, sRaise, sCallX, sRetX, eVar, eC, e1, e2, eL, aCons, aNil, aLim, bV, bAnd, bOr, bNot, eAnd, eOr, eNot, eIf, oNone, oSome, eSl, eChain, eCall, eCallL, eList, frzE, hidE, frz1_val, frz1_own, frz1_own2, frz1_none, hid1_val, hid1_own, hid1_own2, hid1_none, c1, List.map_cons, List.map_nil, List.map_append, List.map_replicate, List.replicate_succ, List.replicate_zero, List.append_eq, List.nil_append, List.cons_append, List.append_nil, List.getElem?_cons_zero, List.getElem?_cons_succ, List.set_cons_zero, List.set_cons_succ, List.length_cons, List.length_nil, Option.map_some, Option.map_none, Option.bind_some, Option.bind_none, if_true, if_false, reduceCtorEq, Nat.reduceAdd, Nat.reduceEqDiff, ite_true, ite_false, ↓reduceIte, and_true, true_and, wipeE, eLc, iS, encM]
    rw [show (PyData.tuple (m.map encR)) = encM m from rfl, e4]
    simp only
    rw [show (m.map fun r => PyData.int (r.getD j 0)) = (m.map fun r => r.getD j 0).map .int by simp, sum_ints]
    rfl
  have hlim : (m.map fun r => PyData.int r.sum).length + ((List.range m.length).map fun j => PyData.int (colSum m j)).length ≤ lim := by
    simp [lim_val]; omega
  have hlf : lfL (m.map fun r => PyData.int r.sum) = true := lfL_all fun d hd => by
    obtain ⟨r, _, rfl⟩ := List.mem_map.mp hd
    rfl
  simp only [wipeE, List.set_cons_succ, List.set_cons_zero] at e1 e3
  refine mkF_rt rfl ((sSeq_nx (sOwn_ok (d := m.map fun r => PyData.int r.sum) (n1 := n) ?_ hlf)).trans (sRet_ok ?_))
  · simp [start0, mkF, mkL, start0, sSeq, sIf, sRet, sSet, sSetH, sOwn, sOwnH, sSkip, sFrz, frzS, sRaise, sCallX, sRetX, eVar, eC, e1, e2, eL, aCons, aNil, aLim, bV, bAnd, bOr, bNot, eAnd, eOr, eNot, eIf, oNone, oSome, eSl, eChain, eCall, eCallL, eList, frzE, hidE, frz1_val, frz1_own, frz1_own2, frz1_none, hid1_val, hid1_own, hid1_own2, hid1_none, c1, List.map_cons, List.map_nil, List.map_append, List.map_replicate, List.replicate_succ, List.replicate_zero, List.append_eq, List.nil_append, List.cons_append, List.append_nil, List.getElem?_cons_zero, List.getElem?_cons_succ, List.set_cons_zero, List.set_cons_succ, List.length_cons, List.length_nil, Option.map_some, Option.map_none, Option.bind_some, Option.bind_none, if_true, if_false, reduceCtorEq, Nat.reduceAdd, Nat.reduceEqDiff, ite_true, ite_false, ↓reduceIte, and_true, true_and, eLc, iS, encM, wipeE]
    exact e1
  · simp [start0, mkF, mkL, start0, sSeq, sIf, sRet, sSet, sSetH, sOwn, sOwnH, sSkip, sFrz, frzS, sRaise, sCallX, sRetX, eVar, eC, e1, e2, eL, aCons, aNil, aLim, bV, bAnd, bOr, bNot, eAnd, eOr, eNot, eIf, oNone, oSome, eSl, eChain, eCall, eCallL, eList, frzE, hidE, frz1_val, frz1_own, frz1_own2, frz1_none, hid1_val, hid1_own, hid1_own2, hid1_none, c1, List.map_cons, List.map_nil, List.map_append, List.map_replicate, List.replicate_succ, List.replicate_zero, List.append_eq, List.nil_append, List.cons_append, List.append_nil, List.getElem?_cons_zero, List.getElem?_cons_succ, List.set_cons_zero, List.set_cons_succ, List.length_cons, List.length_nil, Option.map_some, Option.map_none, Option.bind_some, Option.bind_none, if_true, if_false, reduceCtorEq, Nat.reduceAdd, Nat.reduceEqDiff, ite_true, ite_false, ↓reduceIte, and_true, true_and, eLc, iR1, encM, dLen, wipeE]
    rw [if_pos (by rw [lim_val]; omega)]
    simp only [Int.toNat_natCast]
    rw [show (PyData.tuple (m.map encR)) = encM m from rfl, e3]
    simp only [add_list hlim, Option.map_some, lineSums, List.map_append, List.map_map]
    rfl
/-! ### the draws -/
def drawR (k : Int) (many v : Int) : Prop := 0 ≤ v ∧ v < many
theorem cell_loop (a b : D) (n : Nat) : ∀ (items : List D) (sp : Int) (s3 : Option SV), ∃ (sp' : Int) (s3' : Option SV),
    forGo (.nm 3) (sSet 2 (e2 dFdiv (eVar 2) (eC (.int 1000003)))) items [some (.val a), some (.val b), some (.val (.int sp)), s3] n = some (.nx [some (.val a), some (.val b), some (.val (.int sp')), s3'], n)
  | [], sp, s3 => ⟨sp, s3, rfl⟩
  | x :: r, sp, s3 => by
    obtain ⟨sp', s3', h⟩ := cell_loop a b n r (sp / 1000003) (some (.val x))
    refine ⟨sp', s3', ?_⟩
    unfold forGo
    simp [bindS, mkF, mkL, start0, sSeq, sIf, sRet, sSet, sSetH, sOwn, sOwnH, sSkip, sFrz, frzS, sRaise, sCallX, sRetX, eVar, eC, e1, e2, eL, aCons, aNil, aLim, bV, bAnd, bOr, bNot, eAnd, eOr, eNot, eIf, oNone, oSome, eSl, eChain, eCall, eCallL, eList, frzE, hidE, frz1_val, frz1_own, frz1_own2, frz1_none, hid1_val, hid1_own, hid1_own2, hid1_none, c1, List.map_cons, List.map_nil, List.map_append, List.map_replicate, List.replicate_succ, List.replicate_zero, List.append_eq, List.nil_append, List.cons_append, List.append_nil, List.getElem?_cons_zero, List.getElem?_cons_succ, List.set_cons_zero, List.set_cons_succ, List.length_cons, List.length_nil, Option.map_some, Option.map_none, Option.bind_some, Option.bind_none, if_true, if_false, reduceCtorEq, Nat.reduceAdd, Nat.reduceEqDiff, ite_true, ite_false, ↓reduceIte, and_true, true_and, dFdiv, dI2, lf]
    exact h
theorem cell_at_ok (ns : List Int) (hns : ns.length ≤ 63) (k : Nat) (n : Nat) : ∃ c : Int, m__law_cell_at [scrD ns, .int (k : Int)] n = some (.ok (.int c), n) := by
  by_cases h1 : k < ns.length
  · refine ⟨ns[k], ?_⟩
    have h1' : (k : Int) < ns.length := by omega
    simp [m__law_cell_at, b__law_cell_at, mkF, mkL, start0, sSeq, sIf, sRet, sSet, sSetH, sOwn, sOwnH, sSkip, sFrz, frzS, sRaise, sCallX, sRetX, eVar, eC, e1, e2, eL, aCons, aNil, aLim, bV, bAnd, bOr, bNot, eAnd, eOr, eNot, eIf, oNone, oSome, eSl, eChain, eCall, eCallL, eList, frzE, hidE, frz1_val, frz1_own, frz1_own2, frz1_none, hid1_val, hid1_own, hid1_own2, hid1_none, c1, List.map_cons, List.map_nil, List.map_append, List.map_replicate, List.replicate_succ, List.replicate_zero, List.append_eq, List.nil_append, List.cons_append, List.append_nil, List.getElem?_cons_zero, List.getElem?_cons_succ, List.set_cons_zero, List.set_cons_succ, List.length_cons, List.length_nil, Option.map_some, Option.map_none, Option.bind_some, Option.bind_none, if_true, if_false, reduceCtorEq, Nat.reduceAdd, Nat.reduceEqDiff, ite_true, ite_false, ↓reduceIte, and_true, true_and, dLt, dCmp, dLenS, scrD, h1', dIxS, atI_map, atI_nat' h1]
  · have h1' : ¬ (k : Int) < ns.length := by omega
    by_cases h2 : ns = []
    · subst h2
      refine ⟨0, ?_⟩
      have hk : ¬ ((k : Int) < 0) := by omega
      simp [m__law_cell_at, b__law_cell_at, mkF, mkL, start0, sSeq, sIf, sRet, sSet, sSetH, sOwn, sOwnH, sSkip, sFrz, frzS, sRaise, sCallX, sRetX, eVar, eC, e1, e2, eL, aCons, aNil, aLim, bV, bAnd, bOr, bNot, eAnd, eOr, eNot, eIf, oNone, oSome, eSl, eChain, eCall, eCallL, eList, frzE, hidE, frz1_val, frz1_own, frz1_own2, frz1_none, hid1_val, hid1_own, hid1_own2, hid1_none, c1, List.map_cons, List.map_nil, List.map_append, List.map_replicate, List.replicate_succ, List.replicate_zero, List.append_eq, List.nil_append, List.cons_append, List.append_nil, List.getElem?_cons_zero, List.getElem?_cons_succ, List.set_cons_zero, List.set_cons_succ, List.length_cons, List.length_nil, Option.map_some, Option.map_none, Option.bind_some, Option.bind_none, if_true, if_false, reduceCtorEq, Nat.reduceAdd, Nat.reduceEqDiff, ite_true, ite_false, ↓reduceIte, and_true, true_and, dLt, dCmp, dLenS, scrD, dLst, dEqS, lim_val, hk]
    · have hpos : 0 < ns.length := List.length_pos_iff.mpr h2
      have hmod : ((k : Int) % (ns.length : Int)) = ((k % ns.length : Nat) : Int) := by simp
      have hlt : k % ns.length < ns.length := Nat.mod_lt _ hpos
      have hne : (ns.map PyData.int).isEmpty = false := by
        cases ns with
        | nil => exact absurd rfl h2
        | cons a b => rfl
      have hix : ∀ env : En, ∀ q : Nat, (e2 dIxS (eVar 0) (e2 dMod (eVar 1) (eL (c1 dLenS) (aCons (eVar 0) aNil)))) (some (scrD ns) :: some (.int (k : Int)) :: env) q = some (.int ns[k % ns.length], q) := by
        intro env q
        have hp : (0 : Int) < ns.length := by omega
        simp [mkF, mkL, start0, sSeq, sIf, sRet, sSet, sSetH, sOwn, sOwnH, sSkip, sFrz, frzS, sRaise, sCallX, sRetX, eVar, eC, e1, e2, eL, aCons, aNil, aLim, bV, bAnd, bOr, bNot, eAnd, eOr, eNot, eIf, oNone, oSome, eSl, eChain, eCall, eCallL, eList, frzE, hidE, frz1_val, frz1_own, frz1_own2, frz1_none, hid1_val, hid1_own, hid1_own2, hid1_none, c1, List.map_cons, List.map_nil, List.map_append, List.map_replicate, List.replicate_succ, List.replicate_zero, List.append_eq, List.nil_append, List.cons_append, List.append_nil, List.getElem?_cons_zero, List.getElem?_cons_succ, List.set_cons_zero, List.set_cons_succ, List.length_cons, List.length_nil, Option.map_some, Option.map_none, Option.bind_some, Option.bind_none, if_true, if_false, reduceCtorEq, Nat.reduceAdd, Nat.reduceEqDiff, ite_true, ite_false, ↓reduceIte, and_true, true_and, dLenS, scrD, dMod, dI2, dIxS, hpos, atI_map]
        rw [show ((k : Int) % (ns.length : Int)) = ((k % ns.length : Nat) : Int) by simp, atI_nat' hlt]
      obtain ⟨sp', s3', hloop⟩ := cell_loop (scrD ns) (.int (k : Int)) n (rngD 0 (if (60 : Int) < (k : Int) / ns.length then 60 else (k : Int) / ns.length).toNat) ns[k % ns.length] none
      refine ⟨ns[k % ns.length] * 31 + k + sp' * 101, mkF_rt rfl ?_⟩
      refine (sSeq_nx (S1 := start0 2 [scrD ns, .int (k : Int)]) (n1 := n) ?_).trans ((sSeq_nx (S1 := start0 2 [scrD ns, .int (k : Int)]) (n1 := n) ?_).trans ((sSeq_nx (sSet_ok (d := .int ns[k % ns.length]) (n1 := n) ?_ rfl)).trans ((sSeq_nx ((sFor_go ?_).trans hloop)).trans (sRet_ok ?_))))
      · rw [sIf_f (n1 := n)]
        · rfl
        · simp [start0, mkF, mkL, start0, sSeq, sIf, sRet, sSet, sSetH, sOwn, sOwnH, sSkip, sFrz, frzS, sRaise, sCallX, sRetX, eVar, eC, e1, e2, eL, aCons, aNil, aLim, bV, bAnd, bOr, bNot, eAnd, eOr, eNot, eIf, oNone, oSome, eSl, eChain, eCall, eCallL, eList, frzE, hidE, frz1_val, frz1_own, frz1_own2, frz1_none, hid1_val, hid1_own, hid1_own2, hid1_none, c1, List.map_cons, List.map_nil, List.map_append, List.map_replicate, List.replicate_succ, List.replicate_zero, List.append_eq, List.nil_append, List.cons_append, List.append_nil, List.getElem?_cons_zero, List.getElem?_cons_succ, List.set_cons_zero, List.set_cons_succ, List.length_cons, List.length_nil, Option.map_some, Option.map_none, Option.bind_some, Option.bind_none, if_true, if_false, reduceCtorEq, Nat.reduceAdd, Nat.reduceEqDiff, ite_true, ite_false, ↓reduceIte, and_true, true_and, dLt, dCmp, dLenS, scrD, h1']
      · rw [sIf_f (n1 := n)]
        · rfl
        · simp [start0, mkF, mkL, start0, sSeq, sIf, sRet, sSet, sSetH, sOwn, sOwnH, sSkip, sFrz, frzS, sRaise, sCallX, sRetX, eVar, eC, e1, e2, eL, aCons, aNil, aLim, bV, bAnd, bOr, bNot, eAnd, eOr, eNot, eIf, oNone, oSome, eSl, eChain, eCall, eCallL, eList, frzE, hidE, frz1_val, frz1_own, frz1_own2, frz1_none, hid1_val, hid1_own, hid1_own2, hid1_none, c1, List.map_cons, List.map_nil, List.map_append, List.map_replicate, List.replicate_succ, List.replicate_zero, List.append_eq, List.nil_append, List.cons_append, List.append_nil, List.getElem?_cons_zero, List.getElem?_cons_succ, List.set_cons_zero, List.set_cons_succ, List.length_cons, List.length_nil, Option.map_some, Option.map_none, Option.bind_some, Option.bind_none, if_true, if_false, reduceCtorEq, Nat.reduceAdd, Nat.reduceEqDiff, ite_true, ite_false, ↓reduceIte, and_true, true_and, dLst, dEqS, scrD, h2, lim_val]
      · exact hix _ _
      · have hp : (0 : Int) < ns.length := by omega
        have hsm : (ns.length : Int) < 1073741824 := by omega
        have h0 : (0 : Int) ≤ (k : Int) / ns.length := Int.ediv_nonneg (by omega) (by omega)
        have hJ : -(lim : Int) ≤ (if (60 : Int) < (k : Int) / ns.length then 60 else (k : Int) / ns.length) ∧ (if (60 : Int) < (k : Int) / ns.length then 60 else (k : Int) / ns.length) ≤ (lim : Int) := by
          rw [lim_val]
          split <;> constructor <;> omega
        have hA : (aCons (eL dMin2 (aCons (e2 dFdiv (eVar 1) (eL (c1 dLenS) (aCons (eVar 0) aNil))) (aCons (eC (.int 60)) aNil))) aNil) [some (scrD ns), some (.int (k : Int)), some (.int ns[k % ns.length]), none] n = some ([.int (if (60 : Int) < (k : Int) / ns.length then 60 else (k : Int) / ns.length)], n) := by
          have hsm' : ns.length < 1073741824 := by omega
          simp [mkF, mkL, start0, sSeq, sIf, sRet, sSet, sSetH, sOwn, sOwnH, sSkip, sFrz, frzS, sRaise, sCallX, sRetX, eVar, eC, e1, e2, eL, aCons, aNil, aLim, bV, bAnd, bOr, bNot, eAnd, eOr, eNot, eIf, oNone, oSome, eSl, eChain, eCall, eCallL, eList, frzE, hidE, frz1_val, frz1_own, frz1_own2, frz1_none, hid1_val, hid1_own, hid1_own2, hid1_none, c1, List.map_cons, List.map_nil, List.map_append, List.map_replicate, List.replicate_succ, List.replicate_zero, List.append_eq, List.nil_append, List.cons_append, List.append_nil, List.getElem?_cons_zero, List.getElem?_cons_succ, List.set_cons_zero, List.set_cons_succ, List.length_cons, List.length_nil, Option.map_some, Option.map_none, Option.bind_some, Option.bind_none, if_true, if_false, reduceCtorEq, Nat.reduceAdd, Nat.reduceEqDiff, ite_true, ite_false, ↓reduceIte, and_true, true_and, dMin2, dFdiv, dI2, dLenS, scrD, hpos, hsm]
        show iR1 _ [some (scrD ns), some (.int (k : Int)), some (.int ns[k % ns.length]), none] n = _
        unfold iR1
        rw [hA]
        simp only
        rw [if_pos hJ]
      · have hx := hix [some (.int sp'), frz1 s3'] n
        have hx2 : (e2 dIxS (eVar 0) (e2 dMod (eVar 1) (eL (c1 dLenS) (aCons (eVar 0) aNil)))) (frzE [some (.val (scrD ns)), some (.val (.int (k : Int))), some (.val (.int sp')), s3']) n = some (.int ns[k % ns.length], n) := hx
        have hd1 : dMul (.int ns[k % ns.length]) (.int 31) = some (.int (ns[k % ns.length] * 31)) := by simp [dMul, smallI]
        have hd2 : dMul (.int sp') (.int 101) = some (.int (sp' * 101)) := by simp [dMul, smallI]
        rw [e2, e2, e2, hx2]
        simp [mkF, mkL, start0, sSeq, sIf, sRet, sSet, sSetH, sOwn, sOwnH, sSkip, sFrz, frzS, sRaise, sCallX, sRetX, eVar, eC, e1, e2, eL, aCons, aNil, aLim, bV, bAnd, bOr, bNot, eAnd, eOr, eNot, eIf, oNone, oSome, eSl, eChain, eCall, eCallL, eList, frzE, hidE, frz1_val, frz1_own, frz1_own2, frz1_none, hid1_val, hid1_own, hid1_own2, hid1_none, c1, List.map_cons, List.map_nil, List.map_append, List.map_replicate, List.replicate_succ, List.replicate_zero, List.append_eq, List.nil_append, List.cons_append, List.append_nil, List.getElem?_cons_zero, List.getElem?_cons_succ, List.set_cons_zero, List.set_cons_succ, List.length_cons, List.length_nil, Option.map_some, Option.map_none, Option.bind_some, Option.bind_none, if_true, if_false, reduceCtorEq, Nat.reduceAdd, Nat.reduceEqDiff, ite_true, ite_false, ↓reduceIte, and_true, true_and, hd1, hd2, dAdd]

theorem mixed_ok (ns : List Int) (hns : ns.length ≤ 63) (k : Nat) (many : Int) (hm : 0 < many) (n : Nat) : ∃ v : Int, m__law_mixed [scrD ns, .int (k : Int), .int many] n = some (.ok (.int v), n) ∧ 0 ≤ v ∧ v < many := by
  obtain ⟨c, hc⟩ := cell_at_ok ns hns k n
  have h0 : 0 ≤ (c * 1103515245 + 7919 * (k : Int) + 12345) % 2147483647 := Int.emod_nonneg _ (by decide)
  have h1 : (c * 1103515245 + 7919 * (k : Int) + 12345) % 2147483647 < 2147483647 := Int.emod_lt_of_pos _ (by decide)
  generalize hs : (c * 1103515245 + 7919 * (k : Int) + 12345) % 2147483647 = sp at h0 h1
  refine ⟨sp ^ 5 % 2147483647 % 999983 % many, mkF_rt rfl ((sSeq_nx (sSet_ok (d := .int sp) (n1 := n) ?_ rfl)).trans (sRet_ok ?_)), Int.emod_nonneg _ (by omega), Int.emod_lt_of_pos _ hm⟩
  · have d1 : dMul (.int c) (.int 1103515245) = some (.int (c * 1103515245)) := by simp [dMul, smallI]
    have d2 : dMul (.int 7919) (.int (k : Int)) = some (.int (7919 * (k : Int))) := by simp [dMul, smallI]
    simp [start0, mkF, mkL, start0, sSeq, sIf, sRet, sSet, sSetH, sOwn, sOwnH, sSkip, sFrz, frzS, sRaise, sCallX, sRetX, eVar, eC, e1, e2, eL, aCons, aNil, aLim, bV, bAnd, bOr, bNot, eAnd, eOr, eNot, eIf, oNone, oSome, eSl, eChain, eCall, eCallL, eList, frzE, hidE, frz1_val, frz1_own, frz1_own2, frz1_none, hid1_val, hid1_own, hid1_own2, hid1_none, c1, List.map_cons, List.map_nil, List.map_append, List.map_replicate, List.replicate_succ, List.replicate_zero, List.append_eq, List.nil_append, List.cons_append, List.append_nil, List.getElem?_cons_zero, List.getElem?_cons_succ, List.set_cons_zero, List.set_cons_succ, List.length_cons, List.length_nil, Option.map_some, Option.map_none, Option.bind_some, Option.bind_none, if_true, if_false, reduceCtorEq, Nat.reduceAdd, Nat.reduceEqDiff, ite_true, ite_false, ↓reduceIte, and_true, true_and, hc, d1, d2, dAdd, dMod, dI2, hs]
  · have hp : sp.natAbs < 2 ^ 64 := by omega
    have d3 : dPow (.int sp) (.int 5) = some (.int (sp ^ 5)) := by
      simp [dPow, dI2]
      omega
    simp [start0, mkF, mkL, start0, sSeq, sIf, sRet, sSet, sSetH, sOwn, sOwnH, sSkip, sFrz, frzS, sRaise, sCallX, sRetX, eVar, eC, e1, e2, eL, aCons, aNil, aLim, bV, bAnd, bOr, bNot, eAnd, eOr, eNot, eIf, oNone, oSome, eSl, eChain, eCall, eCallL, eList, frzE, hidE, frz1_val, frz1_own, frz1_own2, frz1_none, hid1_val, hid1_own, hid1_own2, hid1_none, c1, List.map_cons, List.map_nil, List.map_append, List.map_replicate, List.replicate_succ, List.replicate_zero, List.append_eq, List.nil_append, List.cons_append, List.append_nil, List.getElem?_cons_zero, List.getElem?_cons_succ, List.set_cons_zero, List.set_cons_succ, List.length_cons, List.length_nil, Option.map_some, Option.map_none, Option.bind_some, Option.bind_none, if_true, if_false, reduceCtorEq, Nat.reduceAdd, Nat.reduceEqDiff, ite_true, ite_false, ↓reduceIte, and_true, true_and, d3, dMod, dI2, hm]
theorem draw_ok (ns : List Int) (hns : ns.length ≤ 63) (many : Int) (hm : 0 < many) (n : Nat) (hn : n < lim) : ∃ v : Int, m__law_draw [scrD ns, townD, .int many] n = some (.ok (.int v), n + 1) ∧ 0 ≤ v ∧ v < many := by
  obtain ⟨v, hv, h0, h1⟩ := mixed_ok ns hns (n + 1) many hm (n + 1)
  refine ⟨v, mkF_rt rfl ((sSeq_nx (S1 := start0 0 [scrD ns, townD, .int many]) (n1 := n + 1) ?_).trans (sRet_ok ?_)), h0, h1⟩
  · simp [sTown, start0, townD, hn, mkF, mkL, start0, sSeq, sIf, sRet, sSet, sSetH, sOwn, sOwnH, sSkip, sFrz, frzS, sRaise, sCallX, sRetX, eVar, eC, e1, e2, eL, aCons, aNil, aLim, bV, bAnd, bOr, bNot, eAnd, eOr, eNot, eIf, oNone, oSome, eSl, eChain, eCall, eCallL, eList, frzE, hidE, frz1_val, frz1_own, frz1_own2, frz1_none, hid1_val, hid1_own, hid1_own2, hid1_none, c1, List.map_cons, List.map_nil, List.map_append, List.map_replicate, List.replicate_succ, List.replicate_zero, List.append_eq, List.nil_append, List.cons_append, List.append_nil, List.getElem?_cons_zero, List.getElem?_cons_succ, List.set_cons_zero, List.set_cons_succ, List.length_cons, List.length_nil, Option.map_some, Option.map_none, Option.bind_some, Option.bind_none, if_true, if_false, reduceCtorEq, Nat.reduceAdd, Nat.reduceEqDiff, ite_true, ite_false, ↓reduceIte, and_true, true_and]
  · refine eCall_ok (ds := [scrD ns, .int ((n + 1 : Nat) : Int), .int many]) (n1 := n + 1) ?_ hv
    simp [start0, eTown, townD, mkF, mkL, start0, sSeq, sIf, sRet, sSet, sSetH, sOwn, sOwnH, sSkip, sFrz, frzS, sRaise, sCallX, sRetX, eVar, eC, e1, e2, eL, aCons, aNil, aLim, bV, bAnd, bOr, bNot, eAnd, eOr, eNot, eIf, oNone, oSome, eSl, eChain, eCall, eCallL, eList, frzE, hidE, frz1_val, frz1_own, frz1_own2, frz1_none, hid1_val, hid1_own, hid1_own2, hid1_none, c1, List.map_cons, List.map_nil, List.map_append, List.map_replicate, List.replicate_succ, List.replicate_zero, List.append_eq, List.nil_append, List.cons_append, List.append_nil, List.getElem?_cons_zero, List.getElem?_cons_succ, List.set_cons_zero, List.set_cons_succ, List.length_cons, List.length_nil, Option.map_some, Option.map_none, Option.bind_some, Option.bind_none, if_true, if_false, reduceCtorEq, Nat.reduceAdd, Nat.reduceEqDiff, ite_true, ite_false, ↓reduceIte, and_true, true_and]
theorem pick_ok (ns : List Int) (hns : ns.length ≤ 63) (ds : List D) (hd : ds ≠ []) (n : Nat) (hn : n < lim) : ∃ j, j < ds.length ∧ m__law_pick [scrD ns, townD, .list ds] n = some (.ok (ds.getD j .none), n + 1) := by
  have hp : 0 < ds.length := List.length_pos_iff.mpr hd
  obtain ⟨v, hv, h0, h1⟩ := draw_ok ns hns ds.length (by omega) n hn
  have hj : v.toNat < ds.length := by omega
  refine ⟨v.toNat, hj, mkF_rt rfl (sRet_ok ?_)⟩
  have hix : dIx (.list ds) (.int v) = some (ds.getD v.toNat .none) := by
    obtain ⟨j, rfl⟩ : ∃ j : Nat, v = (j : Int) := ⟨v.toNat, by omega⟩
    have hj' : j < ds.length := by omega
    unfold dIx
    simp only
    rw [atI_nat' hj']
    simp [List.getD, hj']
  simp [start0, mkF, mkL, start0, sSeq, sIf, sRet, sSet, sSetH, sOwn, sOwnH, sSkip, sFrz, frzS, sRaise, sCallX, sRetX, eVar, eC, e1, e2, eL, aCons, aNil, aLim, bV, bAnd, bOr, bNot, eAnd, eOr, eNot, eIf, oNone, oSome, eSl, eChain, eCall, eCallL, eList, frzE, hidE, frz1_val, frz1_own, frz1_own2, frz1_none, hid1_val, hid1_own, hid1_own2, hid1_none, c1, List.map_cons, List.map_nil, List.map_append, List.map_replicate, List.replicate_succ, List.replicate_zero, List.append_eq, List.nil_append, List.cons_append, List.append_nil, List.getElem?_cons_zero, List.getElem?_cons_succ, List.set_cons_zero, List.set_cons_succ, List.length_cons, List.length_nil, Option.map_some, Option.map_none, Option.bind_some, Option.bind_none, if_true, if_false, reduceCtorEq, Nat.reduceAdd, Nat.reduceEqDiff, ite_true, ite_false, ↓reduceIte, and_true, true_and, dLen, hv, hix]
/-! a comprehension that draws -/
theorem lc_draws {env : En} {i : Nat} {fe : FE} {P : D → Prop} (c B : Nat) (h : ∀ x n, n + c ≤ B → ∃ d n1, fe (env.set i (some x)) n = some (d, n1) ∧ P d ∧ n1 ≤ n + c) : ∀ (items : List D) (n : Nat), n + c * items.length ≤ B →
    ∃ ds n1, lcGo env (.nm i) bYes fe items n = some (ds, n1) ∧ ds.length = items.length ∧ (∀ d ∈ ds, P d) ∧ n1 ≤ n + c * items.length
  | [], n, _ => ⟨[], n, rfl, rfl, (fun d hd => by cases hd), by simp⟩
  | x :: r, n, hB => by
    rw [List.length_cons, Nat.mul_succ] at hB
    obtain ⟨d, n1, h1, h2, h3⟩ := h x n (by omega)
    obtain ⟨ds, n2, h4, h5, h6, h7⟩ := lc_draws c B h r n1 (by omega)
    refine ⟨d :: ds, n2, ?_, by rw [List.length_cons, List.length_cons, h5], fun z hz => ?_, by rw [List.length_cons, Nat.mul_succ]; omega⟩
    · simp only [lcGo, bindE, bYes, h1]
      rw [h4]
    · rcases List.mem_cons.mp hz with rfl | hz
      · exact h2
      · exact h6 z hz
def isInt (lo hi : Int) (d : D) : Prop := ∃ x : Int, d = .int x ∧ lo ≤ x ∧ x ≤ hi
theorem ints_of {lo hi : Int} : ∀ {ds : List D}, (∀ d ∈ ds, isInt lo hi d) → ∃ r : Row, ds = r.map .int ∧ ∀ x ∈ r, lo ≤ x ∧ x ≤ hi
  | [], _ => ⟨[], rfl, fun x hx => by cases hx⟩
  | d :: ds, h => by
    obtain ⟨x, rfl, hx⟩ := h d List.mem_cons_self
    obtain ⟨r, rfl, hr⟩ := ints_of (ds := ds) fun z hz => h z (List.mem_cons_of_mem _ hz)
    refine ⟨x :: r, rfl, fun y hy => ?_⟩
    rcases List.mem_cons.mp hy with rfl | hy
    · exact hx
    · exact hr y hy
theorem lf_row (r : Row) : lf (encR r) = true := by unfold encR; rw [lf]; exact lfL_ints r
theorem lfL_rows (m : Mt) : lfL (m.map encR) = true := lfL_all fun d hd => by
  obtain ⟨r, _, rfl⟩ := List.mem_map.mp hd
  exact lf_row r
theorem lf_mat (m : Mt) : lf (encM m) = true := by unfold encM; rw [lf]; exact lfL_rows m
theorem anym_loop (ns : List Int) (hns : ns.length ≤ 63) (c : Nat) (hc : c ≤ 6) (most top rare : Int) (ht : 1 ≤ top) (ht2 : top ≤ 10) : ∀ (items : List D) (n : Nat) (rows : Mt) (s7 s8 : Option SV), n + 20 * items.length ≤ lim → rows.length + items.length ≤ 1000 → (∀ r ∈ rows, r.length = c ∧ ∀ x ∈ r, 0 ≤ x ∧ x ≤ 9) →
    ∃ (rows' : Mt) (n' : Nat) (s7' s8' : Option SV), forGo (.nm 7) (sSeq (sOwn 8 (eLc [9] (iR1 (aCons (eVar 3) aNil)) (.nm 9) bYes (eIf (bV (e2 dLt (eCall m__law_draw (aCons (eVar 0) (aCons (eVar 1) (aCons (eC (.int 3)) aNil)))) (eVar 5))) (eC (.int 0)) (eCall m__law_draw (aCons (eVar 0) (aCons (eVar 1) (aCons (eVar 4) aNil)))))))
      (sApp 6 (eL (c1 dTuple) (aCons (eVar 8) aNil)))) items [some (.val (scrD ns)), some (.val townD), some (.val (.int most)), some (.val (.int (c : Int))), some (.val (.int top)), some (.val (.int rare)), some (.own (rows.map encR)), s7, s8, none] n
      = some (.nx [some (.val (scrD ns)), some (.val townD), some (.val (.int most)), some (.val (.int (c : Int))), some (.val (.int top)), some (.val (.int rare)), some (.own (rows'.map encR)), s7', s8', none], n') ∧
      rows'.length = rows.length + items.length ∧ n' ≤ n + 20 * items.length ∧ (∀ r ∈ rows', r.length = c ∧ ∀ x ∈ r, 0 ≤ x ∧ x ≤ 9)
  | [], n, rows, s7, s8, _, _, hr => ⟨rows, n, s7, s8, rfl, rfl, Nat.le_refl _, hr⟩
  | x :: r, n, rows, s7, s8, hn, hl, hr => by
    rw [List.length_cons] at hn hl
    have hcomp := lc_draws (env := wipeE [some (scrD ns), some townD, some (.int most), some (.int (c : Int)), some (.int top), some (.int rare), some (.list (rows.map encR)), some x, frz1 s8, none] [9]) (i := 9)
      (fe := eIf (bV (e2 dLt (eCall m__law_draw (aCons (eVar 0) (aCons (eVar 1) (aCons (eC (.int 3)) aNil)))) (eVar 5))) (eC (.int 0)) (eCall m__law_draw (aCons (eVar 0) (aCons (eVar 1) (aCons (eVar 4) aNil)))))
      (P := isInt 0 9) 2 lim (fun y n1 h1 => by
        obtain ⟨v, hv, v0, v1⟩ := draw_ok ns hns 3 (by decide) n1 (by omega)
        obtain ⟨u, hu, u0, u1⟩ := draw_ok ns hns top (by omega) (n1 + 1) (by omega)
        by_cases hlt : v < rare
        · refine ⟨.int 0, n1 + 1, ?_, ⟨0, rfl, by decide, by decide⟩, by omega⟩
          simp [mkF, mkL, start0, sSeq, sIf, sRet, sSet, sSetH, sOwn, sOwnH, sSkip, sFrz, frzS, sRaise, sCallX, sRetX, eVar, eC, e1, e2, eL, aCons, aNil, aLim, bV, bAnd, bOr, bNot, eAnd, eOr, eNot, eIf, oNone, oSome, eSl, eChain, eCall, eCallL, eList, frzE, hidE, frz1_val, frz1_own, frz1_own2, frz1_none, hid1_val, hid1_own, hid1_own2, hid1_none, c1, List.map_cons, List.map_nil, List.map_append, List.map_replicate, List.replicate_succ, List.replicate_zero, List.append_eq, List.nil_append, List.cons_append, List.append_nil, List.getElem?_cons_zero, List.getElem?_cons_succ, List.set_cons_zero, List.set_cons_succ, List.length_cons, List.length_nil, Option.map_some, Option.map_none, Option.bind_some, Option.bind_none, if_true, if_false, reduceCtorEq, Nat.reduceAdd, Nat.reduceEqDiff, ite_true, ite_false, ↓reduceIte, and_true, true_and, wipeE, hv, dLt, dCmp, hlt]
        · refine ⟨.int u, n1 + 2, ?_, ⟨u, rfl, u0, by omega⟩, by omega⟩
          simp [mkF, mkL, start0, sSeq, sIf, sRet, sSet, sSetH, sOwn, sOwnH, sSkip, sFrz, frzS, sRaise, sCallX, sRetX, eVar, eC, e1, e2, eL, aCons, aNil, aLim, bV, bAnd, bOr, bNot, eAnd, eOr, eNot, eIf, oNone, oSome, eSl, eChain, eCall, eCallL, eList, frzE, hidE, frz1_val, frz1_own, frz1_own2, frz1_none, hid1_val, hid1_own, hid1_own2, hid1_none, c1, List.map_cons, List.map_nil, List.map_append, List.map_replicate, List.replicate_succ, List.replicate_zero, List.append_eq, List.nil_append, List.cons_append, List.append_nil, List.getElem?_cons_zero, List.getElem?_cons_succ, List.set_cons_zero, List.set_cons_succ, List.length_cons, List.length_nil, Option.map_some, Option.map_none, Option.bind_some, Option.bind_none, if_true, if_false, reduceCtorEq, Nat.reduceAdd, Nat.reduceEqDiff, ite_true, ite_false, ↓reduceIte, and_true, true_and, wipeE, hv, dLt, dCmp, hlt, hu]) (rngD 0 c) n (by rw [rngD_len]; omega)
    obtain ⟨ds, n1, e1, l1, p1, b1⟩ := hcomp
    rw [rngD_len] at l1 b1
    obtain ⟨row, rfl, hrow⟩ := ints_of p1
    rw [List.length_map] at l1
    obtain ⟨rows', n', s7', s8', e2, l2, b2, p2⟩ := anym_loop ns hns c hc most top rare ht ht2 r n1 (rows ++ [row]) (some (.val x)) (some (.own (row.map .int))) (by omega) (by rw [List.length_append]; simp; omega) (fun r' hr' => by
      rcases List.mem_append.mp hr' with h | h
      · exact hr r' h
      · have : r' = row := by simpa using h
        subst this
        exact ⟨l1, hrow⟩)
    refine ⟨rows', n', s7', s8', ?_, by rw [l2, List.length_append, List.length_cons]; simp; omega, by rw [List.length_cons]; omega, p2⟩
    rw [← e2]
    have hrng : -(lim : Int) ≤ (c : Int) ∧ (c : Int) ≤ lim := by rw [lim_val]; omega
    refine forGo_nx rfl ((sSeq_nx (sOwn_ok (d := row.map .int) (n1 := n1) ?_ (lfL_ints row))).trans ?_)
    · simp [mkF, mkL, start0, sSeq, sIf, sRet, sSet, sSetH, sOwn, sOwnH, sSkip, sFrz, frzS, sRaise, sCallX, sRetX, eVar, eC, e1, e2, eL, aCons, aNil, aLim, bV, bAnd, bOr, bNot, eAnd, eOr, eNot, eIf, oNone, oSome, eSl, eChain, eCall, eCallL, eList, frzE, hidE, frz1_val, frz1_own, frz1_own2, frz1_none, hid1_val, hid1_own, hid1_own2, hid1_none, c1, List.map_cons, List.map_nil, List.map_append, List.map_replicate, List.replicate_succ, List.replicate_zero, List.append_eq, List.nil_append, List.cons_append, List.append_nil, List.getElem?_cons_zero, List.getElem?_cons_succ, List.set_cons_zero, List.set_cons_succ, List.length_cons, List.length_nil, Option.map_some, Option.map_none, Option.bind_some, Option.bind_none, if_true, if_false, reduceCtorEq, Nat.reduceAdd, Nat.reduceEqDiff, ite_true, ite_false, ↓reduceIte, and_true, true_and, eLc, iR1, hrng]
    · have hlen : rows.length < lim := by rw [lim_val]; omega
      simp [sApp, mkF, mkL, start0, sSeq, sIf, sRet, sSet, sSetH, sOwn, sOwnH, sSkip, sFrz, frzS, sRaise, sCallX, sRetX, eVar, eC, e1, e2, eL, aCons, aNil, aLim, bV, bAnd, bOr, bNot, eAnd, eOr, eNot, eIf, oNone, oSome, eSl, eChain, eCall, eCallL, eList, frzE, hidE, frz1_val, frz1_own, frz1_own2, frz1_none, hid1_val, hid1_own, hid1_own2, hid1_none, c1, List.map_cons, List.map_nil, List.map_append, List.map_replicate, List.replicate_succ, List.replicate_zero, List.append_eq, List.nil_append, List.cons_append, List.append_nil, List.getElem?_cons_zero, List.getElem?_cons_succ, List.set_cons_zero, List.set_cons_succ, List.length_cons, List.length_nil, Option.map_some, Option.map_none, Option.bind_some, Option.bind_none, if_true, if_false, reduceCtorEq, Nat.reduceAdd, Nat.reduceEqDiff, ite_true, ite_false, ↓reduceIte, and_true, true_and, dTuple, seq?, hlen, encR, lf, lfL_ints]
theorem any_matrix_ok (ns : List Int) (hns : ns.length ≤ 63) (most : Int) (h1 : 1 ≤ most) (h2 : most ≤ 5) (n : Nat) (hn : n + 200 ≤ lim) : ∃ (m : Mt) (n' : Nat), m__law_any_matrix [scrD ns, townD, .int most] n = some (.ok (encM m), n') ∧ Mv m ∧ n' ≤ n + 200 ∧ (m.length : Int) ≤ most := by
  obtain ⟨v, hv, v0, v1⟩ := draw_ok ns hns most (by omega) n (by omega)
  obtain ⟨j, hj, hp⟩ := pick_ok ns hns [.int 2, .int 3, .int 5, .int 10] (by simp) (n + 1) (by omega)
  obtain ⟨w, hw, w0, w1⟩ := draw_ok ns hns 3 (by decide) (n + 2) (by omega)
  obtain ⟨top, htop, ht1, ht2⟩ : ∃ top : Int, ([.int 2, .int 3, .int 5, .int 10] : List D).getD j .none = .int top ∧ 1 ≤ top ∧ top ≤ 10 := by
    have hj' : j < 4 := hj
    match j, hj' with
    | 0, _ => exact ⟨2, rfl, by decide, by decide⟩
    | 1, _ => exact ⟨3, rfl, by decide, by decide⟩
    | 2, _ => exact ⟨5, rfl, by decide, by decide⟩
    | 3, _ => exact ⟨10, rfl, by decide, by decide⟩
  rw [htop] at hp
  have hcc : (1 + v) = ((1 + v.toNat : Nat) : Int) := by omega
  obtain ⟨rows, n', s7, s8, e, l, b, p⟩ := anym_loop ns hns (1 + v.toNat) (by omega) most top w ht1 ht2 (rngD 0 (1 + v.toNat)) (n + 3) [] none none (by rw [rngD_len]; omega) (by rw [rngD_len]; simp; omega) (fun r hr => by cases hr)
  rw [rngD_len] at l b
  simp only [List.length_nil, Nat.zero_add] at l
  refine ⟨rows, n', ?_, ⟨by omega, by omega, fun r hr => by rw [l]; exact (p r hr).1, fun r hr => (p r hr).2⟩, by omega, by omega⟩
  refine mkF_rt rfl ((sSeq_nx (sSet_ok (d := .int ((1 + v.toNat : Nat) : Int)) (n1 := n + 1) ?_ rfl)).trans ((sSeq_nx (sSet_ok (d := .int top) (n1 := n + 2) ?_ rfl)).trans ((sSeq_nx (sSet_ok (d := .int w) (n1 := n + 3) ?_ rfl)).trans ((sSeq_nx (sOwn_ok (d := []) (n1 := n + 3) ?_ rfl)).trans ((sSeq_nx ((sFor_go (items := rngD 0 (1 + v.toNat)) (n1 := n + 3) ?_).trans e)).trans (sRet_ok ?_))))))
  · rw [← hcc]
    simp [start0, mkF, mkL, start0, sSeq, sIf, sRet, sSet, sSetH, sOwn, sOwnH, sSkip, sFrz, frzS, sRaise, sCallX, sRetX, eVar, eC, e1, e2, eL, aCons, aNil, aLim, bV, bAnd, bOr, bNot, eAnd, eOr, eNot, eIf, oNone, oSome, eSl, eChain, eCall, eCallL, eList, frzE, hidE, frz1_val, frz1_own, frz1_own2, frz1_none, hid1_val, hid1_own, hid1_own2, hid1_none, c1, List.map_cons, List.map_nil, List.map_append, List.map_replicate, List.replicate_succ, List.replicate_zero, List.append_eq, List.nil_append, List.cons_append, List.append_nil, List.getElem?_cons_zero, List.getElem?_cons_succ, List.set_cons_zero, List.set_cons_succ, List.length_cons, List.length_nil, Option.map_some, Option.map_none, Option.bind_some, Option.bind_none, if_true, if_false, reduceCtorEq, Nat.reduceAdd, Nat.reduceEqDiff, ite_true, ite_false, ↓reduceIte, and_true, true_and, hv, dAdd]
  · simp [start0, mkF, mkL, start0, sSeq, sIf, sRet, sSet, sSetH, sOwn, sOwnH, sSkip, sFrz, frzS, sRaise, sCallX, sRetX, eVar, eC, e1, e2, eL, aCons, aNil, aLim, bV, bAnd, bOr, bNot, eAnd, eOr, eNot, eIf, oNone, oSome, eSl, eChain, eCall, eCallL, eList, frzE, hidE, frz1_val, frz1_own, frz1_own2, frz1_none, hid1_val, hid1_own, hid1_own2, hid1_none, c1, List.map_cons, List.map_nil, List.map_append, List.map_replicate, List.replicate_succ, List.replicate_zero, List.append_eq, List.nil_append, List.cons_append, List.append_nil, List.getElem?_cons_zero, List.getElem?_cons_succ, List.set_cons_zero, List.set_cons_succ, List.length_cons, List.length_nil, Option.map_some, Option.map_none, Option.bind_some, Option.bind_none, if_true, if_false, reduceCtorEq, Nat.reduceAdd, Nat.reduceEqDiff, ite_true, ite_false, ↓reduceIte, and_true, true_and, hp, dLst, lim_val]
  · simp [start0, mkF, mkL, start0, sSeq, sIf, sRet, sSet, sSetH, sOwn, sOwnH, sSkip, sFrz, frzS, sRaise, sCallX, sRetX, eVar, eC, e1, e2, eL, aCons, aNil, aLim, bV, bAnd, bOr, bNot, eAnd, eOr, eNot, eIf, oNone, oSome, eSl, eChain, eCall, eCallL, eList, frzE, hidE, frz1_val, frz1_own, frz1_own2, frz1_none, hid1_val, hid1_own, hid1_own2, hid1_none, c1, List.map_cons, List.map_nil, List.map_append, List.map_replicate, List.replicate_succ, List.replicate_zero, List.append_eq, List.nil_append, List.cons_append, List.append_nil, List.getElem?_cons_zero, List.getElem?_cons_succ, List.set_cons_zero, List.set_cons_succ, List.length_cons, List.length_nil, Option.map_some, Option.map_none, Option.bind_some, Option.bind_none, if_true, if_false, reduceCtorEq, Nat.reduceAdd, Nat.reduceEqDiff, ite_true, ite_false, ↓reduceIte, and_true, true_and, hw]
  · simp [start0, mkF, mkL, start0, sSeq, sIf, sRet, sSet, sSetH, sOwn, sOwnH, sSkip, sFrz, frzS, sRaise, sCallX, sRetX, eVar, eC, e1, e2, eL, aCons, aNil, aLim, bV, bAnd, bOr, bNot, eAnd, eOr, eNot, eIf, oNone, oSome, eSl, eChain, eCall, eCallL, eList, frzE, hidE, frz1_val, frz1_own, frz1_own2, frz1_none, hid1_val, hid1_own, hid1_own2, hid1_none, c1, List.map_cons, List.map_nil, List.map_append, List.map_replicate, List.replicate_succ, List.replicate_zero, List.append_eq, List.nil_append, List.cons_append, List.append_nil, List.getElem?_cons_zero, List.getElem?_cons_succ, List.set_cons_zero, List.set_cons_succ, List.length_cons, List.length_nil, Option.map_some, Option.map_none, Option.bind_some, Option.bind_none, if_true, if_false, reduceCtorEq, Nat.reduceAdd, Nat.reduceEqDiff, ite_true, ite_false, ↓reduceIte, and_true, true_and]
  · have hrng : -(lim : Int) ≤ ((1 + v.toNat : Nat) : Int) ∧ ((1 + v.toNat : Nat) : Int) ≤ lim := by rw [lim_val]; omega
    show iR1 _ [some (scrD ns), some townD, some (.int most), some (.int ((1 + v.toNat : Nat) : Int)), some (.int top), some (.int w), none, none, none, none] (n + 3) = _
    simp only [iR1, aCons, eVar, aNil, List.getElem?_cons_succ, List.getElem?_cons_zero]
    rw [if_pos hrng, Int.toNat_natCast]
  · simp [mkF, mkL, start0, sSeq, sIf, sRet, sSet, sSetH, sOwn, sOwnH, sSkip, sFrz, frzS, sRaise, sCallX, sRetX, eVar, eC, e1, e2, eL, aCons, aNil, aLim, bV, bAnd, bOr, bNot, eAnd, eOr, eNot, eIf, oNone, oSome, eSl, eChain, eCall, eCallL, eList, frzE, hidE, frz1_val, frz1_own, frz1_own2, frz1_none, hid1_val, hid1_own, hid1_own2, hid1_none, c1, List.map_cons, List.map_nil, List.map_append, List.map_replicate, List.replicate_succ, List.replicate_zero, List.append_eq, List.nil_append, List.cons_append, List.append_nil, List.getElem?_cons_zero, List.getElem?_cons_succ, List.set_cons_zero, List.set_cons_succ, List.length_cons, List.length_nil, Option.map_some, Option.map_none, Option.bind_some, Option.bind_none, if_true, if_false, reduceCtorEq, Nat.reduceAdd, Nat.reduceEqDiff, ite_true, ite_false, ↓reduceIte, and_true, true_and, dTuple, seq?, encM]

theorem getD_lt {α : Type} {l : List α} {i : Nat} {d : α} (h : i < l.length) : l.getD i d = l[i] := by
  rw [List.getD, List.getElem?_eq_getElem h]; rfl
theorem getD_mem' {α : Type} {l : List α} {i : Nat} {d : α} (h : i < l.length) : l.getD i d ∈ l := by
  rw [getD_lt h]; exact List.getElem_mem h
theorem getD_set_ne {α : Type} {l : List α} {i k : Nat} {d x : α} (h : k ≠ i) : (l.set k x).getD i d = l.getD i d := by
  rw [List.getD, List.getElem?_set_ne h]; rfl
/-! ### all permutations, as the program makes them -/
def stepOne (c : Nat) (one : Row) : List Row := ((List.range c).filter fun (j : Nat) => !one.contains (j : Int)).map fun (j : Nat) => one ++ [(j : Int)]
def permsK (c : Nat) : Nat → List Row
  | 0 => [[]]
  | k + 1 => (permsK c k).flatMap (stepOne c)
def perms (c : Nat) : List Row := permsK c c
theorem stepOne_len (c : Nat) (one : Row) : (stepOne c one).length ≤ c := by
  unfold stepOne
  rw [List.length_map]
  exact Nat.le_trans (List.length_filter_le _ _) (by rw [List.length_range]; exact Nat.le_refl _)
theorem flatMap_len {α β : Type} (f : α → List β) (c : Nat) (h : ∀ x, (f x).length ≤ c) : ∀ l : List α, (l.flatMap f).length ≤ c * l.length
  | [] => by simp
  | x :: r => by
    rw [List.flatMap_cons, List.length_append, List.length_cons, Nat.mul_succ]
    have := flatMap_len f c h r
    have := h x
    omega
theorem permsK_len (c : Nat) (hc : c ≤ 6) : ∀ k, (permsK c k).length ≤ 6 ^ k
  | 0 => by simp [permsK]
  | k + 1 => by
    have h1 := flatMap_len (stepOne c) c (stepOne_len c) (permsK c k)
    have h2 := permsK_len c hc k
    rw [permsK]
    calc _ ≤ c * (permsK c k).length := h1
      _ ≤ 6 * 6 ^ k := Nat.mul_le_mul hc h2
      _ = 6 ^ (k + 1) := by rw [Nat.pow_succ, Nat.mul_comm]
theorem permsK_mem {c : Nat} : ∀ {k : Nat} {p : Row}, p ∈ permsK c k → p.length = k ∧ p.Nodup ∧ ∀ x ∈ p, 0 ≤ x ∧ x < c
  | 0, p, h => by
    rw [permsK] at h
    simp at h
    subst h
    simp
  | k + 1, p, h => by
    rw [permsK, List.mem_flatMap] at h
    obtain ⟨one, h1, h2⟩ := h
    obtain ⟨i1, i2, i3⟩ := permsK_mem h1
    unfold stepOne at h2
    obtain ⟨j, hj, rfl⟩ := List.mem_map.mp h2
    rw [List.mem_filter, List.mem_range] at hj
    have hn : (j : Int) ∉ one := by simpa using hj.2
    refine ⟨by rw [List.length_append, i1]; rfl, ?_, fun x hx => ?_⟩
    · rw [List.nodup_append]
      refine ⟨i2, by simp, fun a ha b hb => ?_⟩
      have : b = (j : Int) := by simpa using hb
      subst this
      exact fun z => hn (by rw [← z]; exact ha)
    · rcases List.mem_append.mp hx with hx | hx
      · exact i3 x hx
      · have : x = (j : Int) := by simpa using hx
        omega
theorem any_eqv (one : Row) (j : Int) : ((one.map PyData.int).any fun z => PyData.eqv z (.int j)) = one.contains j := by
  induction one with
  | nil => rfl
  | cons a b ih =>
    rw [List.map_cons, List.any_cons, ih, List.contains_cons]
    congr 1
    simp only [PyData.eqv]
    rw [Bool.eq_iff_iff]
    simp
    exact eq_comm
theorem notIn_row (one : Row) (j : Int) : dNotIn (.int j) (encR one) = some (.bool (!one.contains j)) := by
  have h : (one.map PyData.int).all flatD = true := by
    rw [List.all_map, List.all_eq_true]
    intro x _
    rfl
  simp only [dNotIn, encR, inD, h, flatD, Bool.true_and, if_true, Option.map_some, any_eqv]
theorem in_row (one : Row) (j : Int) : dIn (.int j) (encR one) = some (.bool (one.contains j)) := by
  have h : (one.map PyData.int).all flatD = true := by
    rw [List.all_map, List.all_eq_true]
    intro x _
    rfl
  simp only [dIn, encR, inD, h, flatD, Bool.true_and, if_true, Option.map_some, any_eqv]
theorem orders_comp (c : Nat) (one : Row) (ho : one.length ≤ 1000) (a1 a2 a3 : Option D) (n : Nat) :
    lcGo [some (.int (c : Int)), a1, a2, a3, some (encR one), none] (.nm 5) (bV (e2 dNotIn (eVar 5) (eVar 4))) (e2 dAdd (eVar 4) (eL dTup (aCons (eVar 5) aNil))) (rngD 0 c) n = some ((stepOne c one).map encR, n) := by
  rw [rngD_eq]
  have := lc_filter (env := [some (.int (c : Int)), a1, a2, a3, some (encR one), none]) (i := 5) (n := n) (ft := bV (e2 dNotIn (eVar 5) (eVar 4))) (fe := e2 dAdd (eVar 4) (eL dTup (aCons (eVar 5) aNil)))
    (fun (i : Nat) => PyData.int (i : Int)) (fun (j : Nat) => !one.contains (j : Int)) (fun (j : Nat) => encR (one ++ [(j : Int)])) (List.range c) (fun j _ => by simp only [mkF, mkL, start0, sSeq, sIf, sRet, sSet, sSetH, sOwn, sOwnH, sSkip, sFrz, frzS, sRaise, sCallX, sRetX, eVar, eC, e1, e2, eL, aCons, aNil, aLim, bV, bAnd, bOr, bNot, eAnd, eOr, eNot, eIf, oNone, oSome, eSl, eChain, eCall, eCallL, eList, frzE, hidE, frz1_val, frz1_own, frz1_own2, frz1_none, hid1_val, hid1_own, hid1_own2, hid1_none, c1, List.map_cons, List.map_nil, List.map_append, List.map_replicate, List.replicate_succ, List.replicate_zero, List.append_eq, List.nil_append, List.cons_append, List.append_nil, List.getElem?_cons_zero, List.getElem?_cons_succ, List.set_cons_zero, List.set_cons_succ, List.length_cons, List.length_nil, Option.map_some, Option.map_none, Option.bind_some, Option.bind_none, if_true, if_false, reduceCtorEq, Nat.reduceAdd, Nat.reduceEqDiff, ite_true, ite_false, ↓reduceIte, and_true, true_and, notIn_row]) (fun j _ _ => by
      have hl : (one.map PyData.int).length + 1 ≤ lim := by rw [List.length_map, lim_val]; omega
      have hl1 : (1 : Nat) ≤ lim := by rw [lim_val]; omega
      simp only [mkF, mkL, start0, sSeq, sIf, sRet, sSet, sSetH, sOwn, sOwnH, sSkip, sFrz, frzS, sRaise, sCallX, sRetX, eVar, eC, e1, e2, eL, aCons, aNil, aLim, bV, bAnd, bOr, bNot, eAnd, eOr, eNot, eIf, oNone, oSome, eSl, eChain, eCall, eCallL, eList, frzE, hidE, frz1_val, frz1_own, frz1_own2, frz1_none, hid1_val, hid1_own, hid1_own2, hid1_none, c1, List.map_cons, List.map_nil, List.map_append, List.map_replicate, List.replicate_succ, List.replicate_zero, List.append_eq, List.nil_append, List.cons_append, List.append_nil, List.getElem?_cons_zero, List.getElem?_cons_succ, List.set_cons_zero, List.set_cons_succ, List.length_cons, List.length_nil, Option.map_some, Option.map_none, Option.bind_some, Option.bind_none, if_true, if_false, reduceCtorEq, Nat.reduceAdd, Nat.reduceEqDiff, ite_true, ite_false, ↓reduceIte, and_true, true_and, dTup, hl1, dAdd, encR, hl])
  rw [this]
  unfold stepOne
  rw [List.map_map]
  rfl
theorem orders_inner (c : Nat) (n : Nat) (a1 : D) (a2 : Option SV) : ∀ (res : List Row) (acc : List Row) (s4 : Option SV), (∀ one ∈ res, one.length ≤ 1000) → acc.length + c * res.length ≤ lim → ∃ s4',
    forGo (.nm 4) (sExt 3 (eList (eLc [5] (iR1 (aCons (eVar 0) aNil)) (.nm 5) (bV (e2 dNotIn (eVar 5) (eVar 4))) (e2 dAdd (eVar 4) (eL dTup (aCons (eVar 5) aNil)))))) (res.map encR) [some (.val (.int (c : Int))), some (.val a1), a2, some (.own (acc.map encR)), s4, none] n
      = some (.nx [some (.val (.int (c : Int))), some (.val a1), a2, some (.own ((acc ++ res.flatMap (stepOne c)).map encR)), s4', none], n)
  | [], acc, s4, _, _ => ⟨s4, by simp [forGo]⟩
  | one :: r, acc, s4, h, hl => by
    rw [List.length_cons, Nat.mul_succ] at hl
    have hs := stepOne_len c one
    obtain ⟨s4', ih⟩ := orders_inner c n a1 a2 r (acc ++ stepOne c one) (some (.val (encR one))) (fun o ho => h o (List.mem_cons_of_mem _ ho)) (by rw [List.length_append]; omega)
    refine ⟨s4', ?_⟩
    rw [List.map_cons, List.flatMap_cons, ← List.append_assoc, ← ih]
    refine forGo_nx rfl ?_
    have hc := orders_comp c one (h one List.mem_cons_self) (some a1) (frz1 a2) (some (.list (acc.map encR))) n
    have hrng : -(lim : Int) ≤ (c : Int) ∧ (c : Int) ≤ lim := by
      rw [lim_val] at hl ⊢
      constructor
      · omega
      · omega
    have hl2 : (acc.map encR).length + ((stepOne c one).map encR).length ≤ lim := by rw [List.length_map, List.length_map]; omega
    have hlf : lfL ((stepOne c one).map encR) = true := lfL_rows _
    have hx : (eList (eLc [5] (iR1 (aCons (eVar 0) aNil)) (.nm 5) (bV (e2 dNotIn (eVar 5) (eVar 4))) (e2 dAdd (eVar 4) (eL dTup (aCons (eVar 5) aNil))))) (frzE [some (.val (.int (c : Int))), some (.val a1), a2, some (.own (acc.map encR)), some (.val (encR one)), none]) n = some (.list ((stepOne c one).map encR), n) := by
      simp only [mkF, mkL, start0, sSeq, sIf, sRet, sSet, sSetH, sOwn, sOwnH, sSkip, sFrz, frzS, sRaise, sCallX, sRetX, eVar, eC, e1, e2, eL, aCons, aNil, aLim, bV, bAnd, bOr, bNot, eAnd, eOr, eNot, eIf, oNone, oSome, eSl, eChain, eCall, eCallL, eList, frzE, hidE, frz1_val, frz1_own, frz1_own2, frz1_none, hid1_val, hid1_own, hid1_own2, hid1_none, c1, List.map_cons, List.map_nil, List.map_append, List.map_replicate, List.replicate_succ, List.replicate_zero, List.append_eq, List.nil_append, List.cons_append, List.append_nil, List.getElem?_cons_zero, List.getElem?_cons_succ, List.set_cons_zero, List.set_cons_succ, List.length_cons, List.length_nil, Option.map_some, Option.map_none, Option.bind_some, Option.bind_none, if_true, if_false, reduceCtorEq, Nat.reduceAdd, Nat.reduceEqDiff, ite_true, ite_false, ↓reduceIte, and_true, true_and, eLc, iR1, hrng, and_self, Int.toNat_natCast, wipeE, hc]
    simp only [bindS, List.set_cons_succ, List.set_cons_zero, sExt, List.getElem?_cons_succ, List.getElem?_cons_zero, hx, hlf, hl2, decide_true, Bool.and_self, if_true, List.map_append]
theorem orders_outer (c : Nat) (hc : c ≤ 6) (n : Nat) : ∀ (items : List D) (k : Nat) (s2 s3 s4 : Option SV), k + items.length ≤ 6 → ∃ s2' s3' s4',
    forGo (.nm 2) (sSeq (sOwn 3 (aLim aNil)) (sSeq (sFrz 1 (sFor (iS (eVar 1)) (.nm 4)
      (sExt 3 (eList (eLc [5] (iR1 (aCons (eVar 0) aNil)) (.nm 5) (bV (e2 dNotIn (eVar 5) (eVar 4))) (e2 dAdd (eVar 4) (eL dTup (aCons (eVar 5) aNil)))))))) (sMove 3 1))) items [some (.val (.int (c : Int))), some (.own ((permsK c k).map encR)), s2, s3, s4, none] n
      = some (.nx [some (.val (.int (c : Int))), some (.own ((permsK c (k + items.length)).map encR)), s2', s3', s4', none], n)
  | [], k, s2, s3, s4, _ => ⟨s2, s3, s4, rfl⟩
  | x :: r, k, s2, s3, s4, hk => by
    rw [List.length_cons] at hk
    have hlen : (permsK c k).length ≤ 6 ^ 6 := Nat.le_trans (permsK_len c hc k) (Nat.pow_le_pow_right (by decide) (by omega))
    obtain ⟨s4', hi⟩ := orders_inner c n (.list ((permsK c k).map encR)) (some (.val x)) (permsK c k) [] s4 (fun one ho => by rw [(permsK_mem ho).1]; omega) (by
      have : c * (permsK c k).length ≤ 6 * 6 ^ 6 := Nat.mul_le_mul hc hlen
      rw [lim_val]; simp; omega)
    obtain ⟨s2', s3', s4'', ih⟩ := orders_outer c hc n r (k + 1) (some (.val x)) none s4' (by omega)
    refine ⟨s2', s3', s4'', ?_⟩
    rw [List.length_cons, show k + (r.length + 1) = k + 1 + r.length by omega, ← ih]
    refine forGo_nx rfl ?_
    refine (sSeq_nx (sOwn_ok (d := []) (n1 := n) (by simp [mkF, mkL, start0, sSeq, sIf, sRet, sSet, sSetH, sOwn, sOwnH, sSkip, sFrz, frzS, sRaise, sCallX, sRetX, eVar, eC, e1, e2, eL, aCons, aNil, aLim, bV, bAnd, bOr, bNot, eAnd, eOr, eNot, eIf, oNone, oSome, eSl, eChain, eCall, eCallL, eList, frzE, hidE, frz1_val, frz1_own, frz1_own2, frz1_none, hid1_val, hid1_own, hid1_own2, hid1_none, c1, List.map_cons, List.map_nil, List.map_append, List.map_replicate, List.replicate_succ, List.replicate_zero, List.append_eq, List.nil_append, List.cons_append, List.append_nil, List.getElem?_cons_zero, List.getElem?_cons_succ, List.set_cons_zero, List.set_cons_succ, List.length_cons, List.length_nil, Option.map_some, Option.map_none, Option.bind_some, Option.bind_none, if_true, if_false, reduceCtorEq, Nat.reduceAdd, Nat.reduceEqDiff, ite_true, ite_false, ↓reduceIte, and_true, true_and]) rfl)).trans ((sSeq_nx (S1 := [some (.val (.int (c : Int))), some (.val (.list ((permsK c k).map encR))), some (.val x), some (.own ((permsK c (k + 1)).map encR)), s4', none]) (n1 := n) ?_).trans ?_)
    · simp only [sFrz, frzS, mkF, mkL, start0, sSeq, sIf, sRet, sSet, sSetH, sOwn, sOwnH, sSkip, sFrz, frzS, sRaise, sCallX, sRetX, eVar, eC, e1, e2, eL, aCons, aNil, aLim, bV, bAnd, bOr, bNot, eAnd, eOr, eNot, eIf, oNone, oSome, eSl, eChain, eCall, eCallL, eList, frzE, hidE, frz1_val, frz1_own, frz1_own2, frz1_none, hid1_val, hid1_own, hid1_own2, hid1_none, c1, List.map_cons, List.map_nil, List.map_append, List.map_replicate, List.replicate_succ, List.replicate_zero, List.append_eq, List.nil_append, List.cons_append, List.append_nil, List.getElem?_cons_zero, List.getElem?_cons_succ, List.set_cons_zero, List.set_cons_succ, List.length_cons, List.length_nil, Option.map_some, Option.map_none, Option.bind_some, Option.bind_none, if_true, if_false, reduceCtorEq, Nat.reduceAdd, Nat.reduceEqDiff, ite_true, ite_false, ↓reduceIte, and_true, true_and, sFor, iS]
      exact hi
    · simp [sMove]
theorem law_orders_eq (c : Nat) (hc : c ≤ 6) (n : Nat) : m__law_orders_of [.int (c : Int)] n = some (.ok (.list ((perms c).map encR)), n) := by
  obtain ⟨s2, s3, s4, h⟩ := orders_outer c hc n (rngD 0 c) 0 none none none (by rw [rngD_len]; omega)
  rw [rngD_len, Nat.zero_add] at h
  have hrng : -(lim : Int) ≤ (c : Int) ∧ (c : Int) ≤ lim := by rw [lim_val]; omega
  refine mkF_rt rfl ((sSeq_nx (sOwn_ok (d := [encR []]) (n1 := n) ?_ rfl)).trans ((sSeq_nx ((sFor_go (items := rngD 0 c) (n1 := n) ?_).trans h)).trans (sRet_ok ?_)))
  · simp [start0, mkF, mkL, start0, sSeq, sIf, sRet, sSet, sSetH, sOwn, sOwnH, sSkip, sFrz, frzS, sRaise, sCallX, sRetX, eVar, eC, e1, e2, eL, aCons, aNil, aLim, bV, bAnd, bOr, bNot, eAnd, eOr, eNot, eIf, oNone, oSome, eSl, eChain, eCall, eCallL, eList, frzE, hidE, frz1_val, frz1_own, frz1_own2, frz1_none, hid1_val, hid1_own, hid1_own2, hid1_none, c1, List.map_cons, List.map_nil, List.map_append, List.map_replicate, List.replicate_succ, List.replicate_zero, List.append_eq, List.nil_append, List.cons_append, List.append_nil, List.getElem?_cons_zero, List.getElem?_cons_succ, List.set_cons_zero, List.set_cons_succ, List.length_cons, List.length_nil, Option.map_some, Option.map_none, Option.bind_some, Option.bind_none, if_true, if_false, reduceCtorEq, Nat.reduceAdd, Nat.reduceEqDiff, ite_true, ite_false, ↓reduceIte, and_true, true_and, dTup, encR, lim_val]
  · simp [start0, mkF, mkL, start0, sSeq, sIf, sRet, sSet, sSetH, sOwn, sOwnH, sSkip, sFrz, frzS, sRaise, sCallX, sRetX, eVar, eC, e1, e2, eL, aCons, aNil, aLim, bV, bAnd, bOr, bNot, eAnd, eOr, eNot, eIf, oNone, oSome, eSl, eChain, eCall, eCallL, eList, frzE, hidE, frz1_val, frz1_own, frz1_own2, frz1_none, hid1_val, hid1_own, hid1_own2, hid1_none, c1, List.map_cons, List.map_nil, List.map_append, List.map_replicate, List.replicate_succ, List.replicate_zero, List.append_eq, List.nil_append, List.cons_append, List.append_nil, List.getElem?_cons_zero, List.getElem?_cons_succ, List.set_cons_zero, List.set_cons_succ, List.length_cons, List.length_nil, Option.map_some, Option.map_none, Option.bind_some, Option.bind_none, if_true, if_false, reduceCtorEq, Nat.reduceAdd, Nat.reduceEqDiff, ite_true, ite_false, ↓reduceIte, and_true, true_and, iR1, hrng]
  · simp [mkF, mkL, start0, sSeq, sIf, sRet, sSet, sSetH, sOwn, sOwnH, sSkip, sFrz, frzS, sRaise, sCallX, sRetX, eVar, eC, e1, e2, eL, aCons, aNil, aLim, bV, bAnd, bOr, bNot, eAnd, eOr, eNot, eIf, oNone, oSome, eSl, eChain, eCall, eCallL, eList, frzE, hidE, frz1_val, frz1_own, frz1_own2, frz1_none, hid1_val, hid1_own, hid1_own2, hid1_none, c1, List.map_cons, List.map_nil, List.map_append, List.map_replicate, List.replicate_succ, List.replicate_zero, List.append_eq, List.nil_append, List.cons_append, List.append_nil, List.getElem?_cons_zero, List.getElem?_cons_succ, List.set_cons_zero, List.set_cons_succ, List.length_cons, List.length_nil, Option.map_some, Option.map_none, Option.bind_some, Option.bind_none, if_true, if_false, reduceCtorEq, Nat.reduceAdd, Nat.reduceEqDiff, ite_true, ite_false, ↓reduceIte, and_true, true_and, perms]

theorem perms_ne {c : Nat} (hc : c ≤ 5) : perms c ≠ [] := by
  match c, hc with
  | 0, _ => decide
  | 1, _ => decide
  | 2, _ => decide
  | 3, _ => decide
  | 4, _ => decide +kernel
  | 5, _ => decide +kernel
/-! ### even matrices -/
def rowD (r : Row) : List D := r.map .int
def addRow (r : Row) (j : Nat) (w : Int) : Row := r.set j (r.getD j 0 + w)
/-- w more at the places of p, in the rows from k on -/
def addFrom (m : Mt) (p : Row) (w : Int) : Nat → Nat → Mt
  | _, 0 => m
  | k, t + 1 => addFrom (m.set k (addRow (m.getD k []) (p.getD k 0).toNat w)) p w (k + 1) t
def zeroM (c : Nat) : Mt := List.replicate c (List.replicate c 0)
structure Sqr (c : Nat) (m : Mt) : Prop where
  len : m.length = c
  row : ∀ r ∈ m, r.length = c
theorem Sqr.get {c : Nat} {m : Mt} (h : Sqr c m) {i : Nat} (hi : i < c) : (m.getD i []).length = c := by
  have hl : i < m.length := by rw [h.len]; exact hi
  rw [List.getD, List.getElem?_eq_getElem hl]
  exact h.row _ (List.getElem_mem hl)
theorem Sqr.set {c : Nat} {m : Mt} (h : Sqr c m) (i : Nat) {r : Row} (hr : r.length = c) : Sqr c (m.set i r) :=
  ⟨by rw [List.length_set]; exact h.len, fun x hx => by
    rcases List.mem_or_eq_of_mem_set hx with z | z
    · exact h.row x z
    · rw [z]; exact hr⟩
theorem addRow_len (r : Row) (j : Nat) (w : Int) : (addRow r j w).length = r.length := by unfold addRow; rw [List.length_set]
theorem ix_ll (m : List (List D)) (i : Nat) (h : i < m.length) : dIx (.list (m.map .list)) (.int (i : Int)) = some (.list (m.getD i [])) := by
  unfold dIx
  simp only
  rw [atI_map, atI_nat' h]
  simp [List.getD, h]
theorem ix_l (r : Row) (j : Nat) (h : j < r.length) : dIx (.list (rowD r)) (.int (j : Int)) = some (.int (r.getD j 0)) := by
  unfold dIx rowD
  simp only
  rw [atI_map, atI_nat' h]
  simp [List.getD, h]
theorem getD_rowD (m : Mt) (i : Nat) (h : i < m.length) : (m.map rowD).getD i [] = rowD (m.getD i []) := by
  simp [List.getD, h]
structure IsP (c : Nat) (p : Row) : Prop where
  len : p.length = c
  nd : p.Nodup
  rng : ∀ x ∈ p, 0 ≤ x ∧ x < c
theorem IsP.get {c : Nat} {p : Row} (h : IsP c p) {i : Nat} (hi : i < c) : 0 ≤ p.getD i 0 ∧ p.getD i 0 < c := by
  have hl : i < p.length := by rw [h.len]; exact hi
  rw [List.getD, List.getElem?_eq_getElem hl]
  exact h.rng _ (List.getElem_mem hl)
theorem perms_isP {c : Nat} {p : Row} (h : p ∈ perms c) : IsP c p := let ⟨a, b, d⟩ := permsK_mem h; ⟨a, b, d⟩
theorem evm_inner (c : Nat) (p : Row) (hp : IsP c p) (w : Int) (a0 a1 a2 a3 a7 a8 : SV) (n : Nat) : ∀ (t k : Nat) (m : Mt) (s6 s11 : Option SV), k + t ≤ c → Sqr c m → ∃ s11',
    forGo (.nm 11) (sAug2 5 (eVar 11) (e2 dIx (eVar 9) (eVar 11)) (eVar 10) (fun i j => i + j)) ((List.range t).map fun i => .int ((k + i : Nat) : Int)) [some a0, some a1, some a2, some a3, some (.val (.int (c : Int))), some (.own2 (m.map rowD)), s6, some a7, some a8, some (.val (encR p)), some (.val (.int w)), s11] n
      = some (.nx [some a0, some a1, some a2, some a3, some (.val (.int (c : Int))), some (.own2 ((addFrom m p w k t).map rowD)), s6, some a7, some a8, some (.val (encR p)), some (.val (.int w)), s11'], n)
  | 0, k, m, s6, s11, _, _ => ⟨s11, rfl⟩
  | t + 1, k, m, s6, s11, hk, hm => by
    have hkc : k < c := by omega
    have hml : k < m.length := by rw [hm.len]; exact hkc
    obtain ⟨p0, p1⟩ := hp.get hkc
    have hpl : k < p.length := by rw [hp.len]; exact hkc
    have hrl := hm.get hkc
    have hj : (p.getD k 0).toNat < (m.getD k []).length := by rw [hrl]; omega
    obtain ⟨s11', ih⟩ := evm_inner c p hp w a0 a1 a2 a3 a7 a8 n t (k + 1) (m.set k (addRow (m.getD k []) (p.getD k 0).toNat w)) s6 (some (.val (.int (k : Int)))) (by omega) (hm.set k (by rw [addRow_len]; exact hrl))
    refine ⟨s11', ?_⟩
    rw [List.range_succ_eq_map, List.map_cons, List.map_map]
    have e : ((fun (i : Nat) => PyData.int ((k + i : Nat) : Int)) ∘ Nat.succ) = fun (i : Nat) => PyData.int ((k + 1 + i : Nat) : Int) := by
      funext i
      simp only [Function.comp]
      congr 1
      omega
    rw [e]
    show forGo _ _ (PyData.int ((k + 0 : Nat) : Int) :: _) _ _ = _
    rw [Nat.add_zero]
    refine (forGo_nx rfl ?_).trans ih
    have hix : dIx (encR p) (.int (k : Int)) = some (.int (p.getD k 0)) := ix_row hpl
    have hg : (m.map rowD)[k]? = some (rowD (m.getD k [])) := by
      rw [List.getElem?_map, List.getElem?_eq_getElem hml]
      simp [List.getD, hml]
    have hg2 : (rowD (m.getD k []))[(p.getD k 0).toNat]? = some (.int ((m.getD k []).getD (p.getD k 0).toNat 0)) := by
      unfold rowD
      rw [List.getElem?_map, List.getElem?_eq_getElem hj, getD_lt hj]
      rfl
    simp only [bindS, sAug2, mkF, mkL, start0, sSeq, sIf, sRet, sSet, sSetH, sOwn, sOwnH, sSkip, sFrz, frzS, sRaise, sCallX, sRetX, eVar, eC, e1, e2, eL, aCons, aNil, aLim, bV, bAnd, bOr, bNot, eAnd, eOr, eNot, eIf, oNone, oSome, eSl, eChain, eCall, eCallL, eList, frzE, hidE, frz1_val, frz1_own, frz1_own2, frz1_none, hid1_val, hid1_own, hid1_own2, hid1_none, c1, List.map_cons, List.map_nil, List.map_append, List.map_replicate, List.replicate_succ, List.replicate_zero, List.append_eq, List.nil_append, List.cons_append, List.append_nil, List.getElem?_cons_zero, List.getElem?_cons_succ, List.set_cons_zero, List.set_cons_succ, List.length_cons, List.length_nil, Option.map_some, Option.map_none, Option.bind_some, Option.bind_none, if_true, if_false, reduceCtorEq, Nat.reduceAdd, Nat.reduceEqDiff, ite_true, ite_false, ↓reduceIte, and_true, true_and, hix, Int.toNat_natCast, hg, hg2]
    rw [if_pos ⟨by omega, p0⟩]
    congr 6
    rw [List.map_set]
    congr 1
    unfold addRow rowD
    rw [List.map_set]
theorem lc2_rep {env : En} {i : Nat} {fe : Fe (List D)} {n : Nat} (row : List D) (h : ∀ x, fe (env.set i (some x)) n = some (row, n)) : ∀ items : List D, lcGo2 env (.nm i) fe items n = some (List.replicate items.length row, n)
  | [] => rfl
  | x :: r => by
    simp only [lcGo2, bindE, h x]
    rw [lc2_rep row h r]
    rfl
/-- what the drawn permutations add up to -/
inductive Made (c : Nat) : Mt → Prop where
  | zero : Made c (zeroM c)
  | add {m : Mt} {p : Row} {w : Int} : Made c m → IsP c p → 1 ≤ w → Made c (addFrom m p w 0 c)
theorem addFrom_sqr {c : Nat} {p : Row} {w : Int} : ∀ (t k : Nat) {m : Mt}, k + t ≤ c → Sqr c m → Sqr c (addFrom m p w k t)
  | 0, _, _, _, h => h
  | t + 1, k, m, hk, h => addFrom_sqr t (k + 1) (by omega) (h.set k (by rw [addRow_len]; exact h.get (by omega)))
def Rng (m : Mt) : Prop := ∀ r ∈ m, ∀ x ∈ r, 0 ≤ x ∧ x ≤ 9
theorem addFrom_rng {c : Nat} {p : Row} {w : Int} (hw : 0 ≤ w) : ∀ (t k : Nat) {m : Mt}, k + t ≤ c → Sqr c m → Rng m → (∀ i, k ≤ i → i < k + t → (m.getD i []).getD (p.getD i 0).toNat 0 + w ≤ 9) → Rng (addFrom m p w k t)
  | 0, _, _, _, _, h, _ => h
  | t + 1, k, m, hk, hs, h, hb => by
    have hml : k < m.length := by rw [hs.len]; omega
    refine addFrom_rng hw t (k + 1) (by omega) (hs.set k (by rw [addRow_len]; exact hs.get (by omega))) (fun r hr x hx => ?_) fun i h1 h2 => ?_
    · rcases List.mem_or_eq_of_mem_set hr with z | z
      · exact h r z x hx
      · rw [z] at hx
        unfold addRow at hx
        have hmem : m.getD k [] ∈ m := by
          rw [List.getD, List.getElem?_eq_getElem hml]
          exact List.getElem_mem hml
        rcases List.mem_or_eq_of_mem_set hx with y | y
        · exact h _ hmem x y
        · rw [y]
          have := hb k (Nat.le_refl _) (by omega)
          refine ⟨?_, this⟩
          by_cases hj : (p.getD k 0).toNat < (m.getD k []).length
          · have : (m.getD k []).getD (p.getD k 0).toNat 0 ∈ m.getD k [] := getD_mem' hj
            have := (h _ hmem _ this).1
            omega
          · have : (m.getD k []).getD (p.getD k 0).toNat 0 = 0 := by
              rw [List.getD, List.getElem?_eq_none (by omega)]
              rfl
            omega
    · have hne : k ≠ i := by omega
      rw [getD_set_ne hne]
      exact hb i (by omega) (by omega)
theorem evm_outer (ns : List Int) (hns : ns.length ≤ 63) (c : Nat) (hc1 : 1 ≤ c) (hc : c ≤ 5) (a2 a3 : SV) : ∀ (items : List D) (n : Nat) (m : Mt) (s6 s8 s9 s10 s11 : Option SV), n + 2 * items.length ≤ lim → Sqr c m → Rng m → Made c m → ∃ (m' : Mt) (n' : Nat) (s6' s8' s9' s10' s11' : Option SV),
    forGo (.nm 8) (sSeq (sSet 9 (eCall m__law_pick (aCons (eVar 0) (aCons (eVar 1) (aCons (eVar 7) aNil)))))
      (sSeq (sSet 10 (e2 dAdd (eC (.int 1)) (eCall m__law_draw (aCons (eVar 0) (aCons (eVar 1) (aCons (eC (.int 2)) aNil))))))
      (sIf (bV (e2 dLt (e2 dAdd (eL (c1 dMax) (aCons (eList (eLc [11] (iR1 (aCons (eVar 4) aNil)) (.nm 11) bYes (e2 dIx (e2 dIx (eVar 5) (eVar 11)) (e2 dIx (eVar 9) (eVar 11))))) aNil)) (eVar 10)) (eC (.int 10))))
      (sFor (iR1 (aCons (eVar 4) aNil)) (.nm 11)
      (sAug2 5 (eVar 11) (e2 dIx (eVar 9) (eVar 11)) (eVar 10) (fun i j => i + j)))
      sSkip))) items [some (.val (scrD ns)), some (.val townD), some a2, some a3, some (.val (.int (c : Int))), some (.own2 (m.map rowD)), s6, some (.val (.list ((perms c).map encR))), s8, s9, s10, s11] n
    = some (.nx [some (.val (scrD ns)), some (.val townD), some a2, some a3, some (.val (.int (c : Int))), some (.own2 (m'.map rowD)), s6', some (.val (.list ((perms c).map encR))), s8', s9', s10', s11'], n') ∧ n' ≤ n + 2 * items.length ∧ Sqr c m' ∧ Rng m' ∧ Made c m'
  | [], n, m, s6, s8, s9, s10, s11, _, h1, h2, h3 => ⟨m, n, s6, s8, s9, s10, s11, rfl, Nat.le_refl _, h1, h2, h3⟩
  | x :: r, n, m, s6, s8, s9, s10, s11, hn, h1, h2, h3 => by
    rw [List.length_cons] at hn
    obtain ⟨j, hj, hpick⟩ := pick_ok ns hns ((perms c).map encR) (by intro z; exact perms_ne hc (List.map_eq_nil_iff.mp z)) n (by omega)
    rw [List.length_map] at hj
    have hpj : ((perms c).map encR).getD j .none = encR ((perms c).getD j []) := by simp [List.getD, hj]
    rw [hpj] at hpick
    have hP : IsP c ((perms c).getD j []) := by
      rw [List.getD, List.getElem?_eq_getElem hj]
      exact perms_isP (List.getElem_mem hj)
    generalize (perms c).getD j [] = p at hpick hP
    obtain ⟨v, hv, v0, v1⟩ := draw_ok ns hns 2 (by decide) (n + 1) (by omega)
    have hrng : -(lim : Int) ≤ (c : Int) ∧ (c : Int) ≤ lim := by rw [lim_val]; omega
    -- the entries at the places
    let ent : Nat → Int := fun i => (m.getD i []).getD (p.getD i 0).toNat 0
    have hcomp : lcGo [some (scrD ns), some townD, some a2.d, some a3.d, some (.int (c : Int)), some (.list ((m.map rowD).map .list)), frz1 s6, some (.list ((perms c).map encR)), some x, some (encR p), some (.int (1 + v)), none] (.nm 11) bYes (e2 dIx (e2 dIx (eVar 5) (eVar 11)) (e2 dIx (eVar 9) (eVar 11))) (rngD 0 c) (n + 2) = some ((List.range c).map fun i => .int (ent i), n + 2) := by
      rw [rngD_eq]
      refine lc_map _ _ _ fun i hi => ?_
      have hi' := List.mem_range.mp hi
      have hml : i < m.length := by rw [h1.len]; exact hi'
      obtain ⟨p0, p1⟩ := hP.get hi'
      have q1 : dIx (.list ((m.map rowD).map .list)) (.int (i : Int)) = some (.list (rowD (m.getD i []))) := by rw [ix_ll _ _ (by rw [List.length_map]; exact hml), getD_rowD m i hml]
      have q2 : dIx (encR p) (.int (i : Int)) = some (.int (p.getD i 0)) := ix_row (by rw [hP.len]; exact hi')
      have q3 : dIx (.list (rowD (m.getD i []))) (.int (p.getD i 0)) = some (.int (ent i)) := by
        have := ix_l (m.getD i []) (p.getD i 0).toNat (by rw [h1.get hi']; omega)
        rw [Int.toNat_of_nonneg p0] at this
        exact this
      simp only [mkF, mkL, start0, sSeq, sIf, sRet, sSet, sSetH, sOwn, sOwnH, sSkip, sFrz, frzS, sRaise, sCallX, sRetX, eVar, eC, e1, e2, eL, aCons, aNil, aLim, bV, bAnd, bOr, bNot, eAnd, eOr, eNot, eIf, oNone, oSome, eSl, eChain, eCall, eCallL, eList, frzE, hidE, frz1_val, frz1_own, frz1_own2, frz1_none, hid1_val, hid1_own, hid1_own2, hid1_none, c1, List.map_cons, List.map_nil, List.map_append, List.map_replicate, List.replicate_succ, List.replicate_zero, List.append_eq, List.nil_append, List.cons_append, List.append_nil, List.getElem?_cons_zero, List.getElem?_cons_succ, List.set_cons_zero, List.set_cons_succ, List.length_cons, List.length_nil, Option.map_some, Option.map_none, Option.bind_some, Option.bind_none, if_true, if_false, reduceCtorEq, Nat.reduceAdd, Nat.reduceEqDiff, ite_true, ite_false, ↓reduceIte, and_true, true_and, q1, q2, q3]
    have hne : ((List.range c).map ent) ≠ [] := by
      intro z
      have := congrArg List.length z
      simp at this
      omega
    have hmax : dMax (.list ((List.range c).map fun i => PyData.int (ent i))) = some (.int (maxL ((List.range c).map ent))) := by
      rw [show ((List.range c).map fun i => PyData.int (ent i)) = ((List.range c).map ent).map .int by rw [List.map_map]; rfl]
      exact max_ints hne
    have hset : ∀ S' S'' nn, (sSeq (sSet 9 (eCall m__law_pick (aCons (eVar 0) (aCons (eVar 1) (aCons (eVar 7) aNil)))))
      (sSeq (sSet 10 (e2 dAdd (eC (.int 1)) (eCall m__law_draw (aCons (eVar 0) (aCons (eVar 1) (aCons (eC (.int 2)) aNil))))))
      S'')) [some (.val (scrD ns)), some (.val townD), some a2, some a3, some (.val (.int (c : Int))), some (.own2 (m.map rowD)), s6, some (.val (.list ((perms c).map encR))), some (.val x), s9, s10, s11] n = some (.nx S', nn) ↔ S'' [some (.val (scrD ns)), some (.val townD), some a2, some a3, some (.val (.int (c : Int))), some (.own2 (m.map rowD)), s6, some (.val (.list ((perms c).map encR))), some (.val x), some (.val (encR p)), some (.val (.int (1 + v))), s11] (n + 2) = some (.nx S', nn) := by
      intro S' S'' nn
      rw [sSeq_nx (sSet_ok (d := encR p) (n1 := n + 1) (by simp [mkF, mkL, start0, sSeq, sIf, sRet, sSet, sSetH, sOwn, sOwnH, sSkip, sFrz, frzS, sRaise, sCallX, sRetX, eVar, eC, e1, e2, eL, aCons, aNil, aLim, bV, bAnd, bOr, bNot, eAnd, eOr, eNot, eIf, oNone, oSome, eSl, eChain, eCall, eCallL, eList, frzE, hidE, frz1_val, frz1_own, frz1_own2, frz1_none, hid1_val, hid1_own, hid1_own2, hid1_none, c1, List.map_cons, List.map_nil, List.map_append, List.map_replicate, List.replicate_succ, List.replicate_zero, List.append_eq, List.nil_append, List.cons_append, List.append_nil, List.getElem?_cons_zero, List.getElem?_cons_succ, List.set_cons_zero, List.set_cons_succ, List.length_cons, List.length_nil, Option.map_some, Option.map_none, Option.bind_some, Option.bind_none, if_true, if_false, reduceCtorEq, Nat.reduceAdd, Nat.reduceEqDiff, ite_true, ite_false, ↓reduceIte, and_true, true_and, hpick]) (lf_row p)), sSeq_nx (sSet_ok (d := .int (1 + v)) (n1 := n + 2) (by simp [mkF, mkL, start0, sSeq, sIf, sRet, sSet, sSetH, sOwn, sOwnH, sSkip, sFrz, frzS, sRaise, sCallX, sRetX, eVar, eC, e1, e2, eL, aCons, aNil, aLim, bV, bAnd, bOr, bNot, eAnd, eOr, eNot, eIf, oNone, oSome, eSl, eChain, eCall, eCallL, eList, frzE, hidE, frz1_val, frz1_own, frz1_own2, frz1_none, hid1_val, hid1_own, hid1_own2, hid1_none, c1, List.map_cons, List.map_nil, List.map_append, List.map_replicate, List.replicate_succ, List.replicate_zero, List.append_eq, List.nil_append, List.cons_append, List.append_nil, List.getElem?_cons_zero, List.getElem?_cons_succ, List.set_cons_zero, List.set_cons_succ, List.length_cons, List.length_nil, Option.map_some, Option.map_none, Option.bind_some, Option.bind_none, if_true, if_false, reduceCtorEq, Nat.reduceAdd, Nat.reduceEqDiff, ite_true, ite_false, ↓reduceIte, and_true, true_and, hv, dAdd]) rfl)]
      exact Iff.rfl
    have f2 : frz1 (some a2) = some a2.d := rfl
    have f3 : frz1 (some a3) = some a3.d := rfl
    have hcond : (bV (e2 dLt (e2 dAdd (eL (c1 dMax) (aCons (eList (eLc [11] (iR1 (aCons (eVar 4) aNil)) (.nm 11) bYes (e2 dIx (e2 dIx (eVar 5) (eVar 11)) (e2 dIx (eVar 9) (eVar 11))))) aNil)) (eVar 10)) (eC (.int 10)))) (frzE [some (.val (scrD ns)), some (.val townD), some a2, some a3, some (.val (.int (c : Int))), some (.own2 (m.map rowD)), s6, some (.val (.list ((perms c).map encR))), some (.val x), some (.val (encR p)), some (.val (.int (1 + v))), s11]) (n + 2) = some (decide (maxL ((List.range c).map ent) + (1 + v) < 10), n + 2) := by
      simp only [mkF, mkL, start0, sSeq, sIf, sRet, sSet, sSetH, sOwn, sOwnH, sSkip, sFrz, frzS, sRaise, sCallX, sRetX, eVar, eC, e1, e2, eL, aCons, aNil, aLim, bV, bAnd, bOr, bNot, eAnd, eOr, eNot, eIf, oNone, oSome, eSl, eChain, eCall, eCallL, eList, frzE, hidE, frz1_val, frz1_own, frz1_own2, frz1_none, hid1_val, hid1_own, hid1_own2, hid1_none, c1, List.map_cons, List.map_nil, List.map_append, List.map_replicate, List.replicate_succ, List.replicate_zero, List.append_eq, List.nil_append, List.cons_append, List.append_nil, List.getElem?_cons_zero, List.getElem?_cons_succ, List.set_cons_zero, List.set_cons_succ, List.length_cons, List.length_nil, Option.map_some, Option.map_none, Option.bind_some, Option.bind_none, if_true, if_false, reduceCtorEq, Nat.reduceAdd, Nat.reduceEqDiff, ite_true, ite_false, ↓reduceIte, and_true, true_and, f2, f3, eLc, iR1, hrng, and_self, Int.toNat_natCast, wipeE, hcomp, hmax, dAdd, dLt, dCmp]
    by_cases hlt : maxL ((List.range c).map ent) + (1 + v) < 10
    · obtain ⟨s11', hin⟩ := evm_inner c p hP (1 + v) (.val (scrD ns)) (.val townD) a2 a3 (.val (.list ((perms c).map encR))) (.val x) (n + 2) c 0 m s6 s11 (by omega) h1
      have hin' : ((List.range c).map fun (i : Nat) => PyData.int ((0 + i : Nat) : Int)) = rngD 0 c := by
        rw [rngD_eq]
        apply List.map_congr_left
        intro i _
        rw [Nat.zero_add]
      rw [hin'] at hin
      have hs' := addFrom_sqr (p := p) (w := 1 + v) c 0 (by omega) h1
      have hr' : Rng (addFrom m p (1 + v) 0 c) := addFrom_rng (by omega) c 0 (by omega) h1 h2 fun i _ hi => by
        have : ent i ≤ maxL ((List.range c).map ent) := maxL_ge (List.mem_map.mpr ⟨i, List.mem_range.mpr (by omega), rfl⟩)
        show ent i + (1 + v) ≤ 9
        omega
      obtain ⟨m', n', t6, t8, t9, t10, t11, ih, b, q1, q2, q3⟩ := evm_outer ns hns c hc1 hc a2 a3 r (n + 2) (addFrom m p (1 + v) 0 c) s6 (some (.val x)) (some (.val (encR p))) (some (.val (.int (1 + v)))) s11' (by omega) hs' hr' (.add h3 hP (by omega))
      refine ⟨m', n', t6, t8, t9, t10, t11, ?_, by rw [List.length_cons]; omega, q1, q2, q3⟩
      rw [← ih]
      refine forGo_nx rfl ((hset _ _ _).mpr ?_)
      rw [sIf_t (n1 := n + 2) (by rw [hcond]; simp [hlt])]
      refine (sFor_go (items := rngD 0 c) (n1 := n + 2) ?_).trans hin
      simp only [mkF, mkL, start0, sSeq, sIf, sRet, sSet, sSetH, sOwn, sOwnH, sSkip, sFrz, frzS, sRaise, sCallX, sRetX, eVar, eC, e1, e2, eL, aCons, aNil, aLim, bV, bAnd, bOr, bNot, eAnd, eOr, eNot, eIf, oNone, oSome, eSl, eChain, eCall, eCallL, eList, frzE, hidE, frz1_val, frz1_own, frz1_own2, frz1_none, hid1_val, hid1_own, hid1_own2, hid1_none, c1, List.map_cons, List.map_nil, List.map_append, List.map_replicate, List.replicate_succ, List.replicate_zero, List.append_eq, List.nil_append, List.cons_append, List.append_nil, List.getElem?_cons_zero, List.getElem?_cons_succ, List.set_cons_zero, List.set_cons_succ, List.length_cons, List.length_nil, Option.map_some, Option.map_none, Option.bind_some, Option.bind_none, if_true, if_false, reduceCtorEq, Nat.reduceAdd, Nat.reduceEqDiff, ite_true, ite_false, ↓reduceIte, and_true, true_and, iR1, hrng, and_self, Int.toNat_natCast]
    · obtain ⟨m', n', t6, t8, t9, t10, t11, ih, b, q1, q2, q3⟩ := evm_outer ns hns c hc1 hc a2 a3 r (n + 2) m s6 (some (.val x)) (some (.val (encR p))) (some (.val (.int (1 + v)))) s11 (by omega) h1 h2 h3
      refine ⟨m', n', t6, t8, t9, t10, t11, ?_, by rw [List.length_cons]; omega, q1, q2, q3⟩
      rw [← ih]
      refine forGo_nx rfl ((hset _ _ _).mpr ?_)
      rw [sIf_f (n1 := n + 2) (by rw [hcond]; simp [hlt])]
      rfl

theorem flat_rep1 {α : Type} (x : α) : ∀ c : Nat, (List.replicate c [x]).flatten = List.replicate c x
  | 0 => rfl
  | c + 1 => by rw [List.replicate_succ, List.flatten_cons, flat_rep1 x c]; rfl
theorem zero_sqr (c : Nat) : Sqr c (zeroM c) := ⟨by simp [zeroM], fun r hr => by
  have := List.eq_of_mem_replicate hr
  rw [this]; simp⟩
theorem zero_rng (c : Nat) : Rng (zeroM c) := fun r hr x hx => by
  have := List.eq_of_mem_replicate hr
  rw [this] at hx
  have := List.eq_of_mem_replicate hx
  omega
theorem even_matrix_ok (ns : List Int) (hns : ns.length ≤ 63) (most parts : Int) (h1 : 1 ≤ most) (h2 : most ≤ 5) (h3 : 0 ≤ parts) (h4 : parts ≤ 10) (n : Nat) (hn : n + 100 ≤ lim) :
    ∃ (m : Mt) (n' : Nat), m__law_even_matrix [scrD ns, townD, .int most, .int parts] n = some (.ok (encM m), n') ∧ Mv m ∧ Made m.length m ∧ n' ≤ n + 100 ∧ (m.length : Int) ≤ most := by
  obtain ⟨v, hv, v0, v1⟩ := draw_ok ns hns most (by omega) n (by omega)
  obtain ⟨u, hu, u0, u1⟩ := draw_ok ns hns (parts + 1) (by omega) (n + 1) (by omega)
  have hcc : (1 + v) = ((1 + v.toNat : Nat) : Int) := by omega
  obtain ⟨m, n', t6, t8, t9, t10, t11, e, b, q1, q2, q3⟩ := evm_outer ns hns (1 + v.toNat) (by omega) (by omega) (.val (.int most)) (.val (.int parts)) (rngD 0 u.toNat) (n + 2) (zeroM (1 + v.toNat)) none none none none none (by rw [rngD_len]; omega) (zero_sqr _) (zero_rng _) .zero
  rw [rngD_len] at b
  have hcl : 1 + v.toNat ≤ 5 := by omega
  generalize hc : 1 + v.toNat = c at *
  have hrng : -(lim : Int) ≤ (c : Int) ∧ (c : Int) ≤ lim := by rw [lim_val]; omega
  have hml := q1.len
  refine ⟨m, n', ?_, ⟨by omega, by omega, fun r hr => by rw [hml]; exact q1.row r hr, q2⟩, by rw [hml]; exact q3, by omega, by omega⟩
  have hrow : (aRep (eL dLst (aCons (eC (.int 0)) aNil)) (eVar 4)) = (aRep (eL dLst (aCons (eC (.int 0)) aNil)) (eVar 4)) := rfl
  refine mkF_rt rfl ((sSeq_nx (sSet_ok (d := .int (c : Int)) (n1 := n + 1) ?_ rfl)).trans ((sSeq_nx (sOwn2_ok (d := (zeroM c).map rowD) (n1 := n + 1) ?_)).trans ((sSeq_nx (sSetH_ok (d := .list ((perms c).map encR)) (n1 := n + 1) ?_)).trans ((sSeq_nx ((sFor_go (items := rngD 0 u.toNat) (n1 := n + 2) ?_).trans e)).trans (sRet_ok ?_)))))
  · rw [← hcc]
    simp [start0, mkF, mkL, start0, sSeq, sIf, sRet, sSet, sSetH, sOwn, sOwnH, sSkip, sFrz, frzS, sRaise, sCallX, sRetX, eVar, eC, e1, e2, eL, aCons, aNil, aLim, bV, bAnd, bOr, bNot, eAnd, eOr, eNot, eIf, oNone, oSome, eSl, eChain, eCall, eCallL, eList, frzE, hidE, frz1_val, frz1_own, frz1_own2, frz1_none, hid1_val, hid1_own, hid1_own2, hid1_none, c1, List.map_cons, List.map_nil, List.map_append, List.map_replicate, List.replicate_succ, List.replicate_zero, List.append_eq, List.nil_append, List.cons_append, List.append_nil, List.getElem?_cons_zero, List.getElem?_cons_succ, List.set_cons_zero, List.set_cons_succ, List.length_cons, List.length_nil, Option.map_some, Option.map_none, Option.bind_some, Option.bind_none, if_true, if_false, reduceCtorEq, Nat.reduceAdd, Nat.reduceEqDiff, ite_true, ite_false, ↓reduceIte, and_true, true_and, hv, dAdd]
  · have hh : lcGo2 (wipeE [some (scrD ns), some townD, some (.int most), some (.int parts), some (.int (c : Int)), none, none, none, none, none, none, none] [6]) (.nm 6) (aRep (eL dLst (aCons (eC (.int 0)) aNil)) (eVar 4)) (rngD 0 c) (n + 1) = some (List.replicate (rngD 0 c).length (List.replicate c (.int 0)), n + 1) := by
      refine lc2_rep _ (fun x => ?_) _
      have hl2 : (c : Int) < 2 ^ 63 ∧ -(2 ^ 63) ≤ (c : Int) ∧ 1 * c ≤ lim := by rw [lim_val]; omega
      have hfl := flat_rep1 (PyData.int 0) c
      have hl1 : (1 : Nat) ≤ lim := by rw [lim_val]; omega
      simp only [mkF, mkL, start0, sSeq, sIf, sRet, sSet, sSetH, sOwn, sOwnH, sSkip, sFrz, frzS, sRaise, sCallX, sRetX, eVar, eC, e1, e2, eL, aCons, aNil, aLim, bV, bAnd, bOr, bNot, eAnd, eOr, eNot, eIf, oNone, oSome, eSl, eChain, eCall, eCallL, eList, frzE, hidE, frz1_val, frz1_own, frz1_own2, frz1_none, hid1_val, hid1_own, hid1_own2, hid1_none, c1, List.map_cons, List.map_nil, List.map_append, List.map_replicate, List.replicate_succ, List.replicate_zero, List.append_eq, List.nil_append, List.cons_append, List.append_nil, List.getElem?_cons_zero, List.getElem?_cons_succ, List.set_cons_zero, List.set_cons_succ, List.length_cons, List.length_nil, Option.map_some, Option.map_none, Option.bind_some, Option.bind_none, if_true, if_false, reduceCtorEq, Nat.reduceAdd, Nat.reduceEqDiff, ite_true, ite_false, ↓reduceIte, and_true, true_and, wipeE, aRep, dLst, hl1, Int.toNat_natCast, hl2, and_self, hfl]
    rw [rngD_len] at hh
    show eLc2 [6] _ _ _ [some (scrD ns), some townD, some (.int most), some (.int parts), some (.int (c : Int)), none, none, none, none, none, none, none] (n + 1) = _
    simp only [eLc2, iR1, aCons, eVar, aNil, List.getElem?_cons_succ, List.getElem?_cons_zero, hrng, and_self, if_true, Int.toNat_natCast]
    rw [hh]
    unfold zeroM rowD
    rw [List.map_replicate, List.map_replicate]
  · have ho := law_orders_eq c (by omega) (n + 1)
    simp [start0, mkF, mkL, start0, sSeq, sIf, sRet, sSet, sSetH, sOwn, sOwnH, sSkip, sFrz, frzS, sRaise, sCallX, sRetX, eVar, eC, e1, e2, eL, aCons, aNil, aLim, bV, bAnd, bOr, bNot, eAnd, eOr, eNot, eIf, oNone, oSome, eSl, eChain, eCall, eCallL, eList, frzE, hidE, frz1_val, frz1_own, frz1_own2, frz1_none, hid1_val, hid1_own, hid1_own2, hid1_none, c1, List.map_cons, List.map_nil, List.map_append, List.map_replicate, List.replicate_succ, List.replicate_zero, List.append_eq, List.nil_append, List.cons_append, List.append_nil, List.getElem?_cons_zero, List.getElem?_cons_succ, List.set_cons_zero, List.set_cons_succ, List.length_cons, List.length_nil, Option.map_some, Option.map_none, Option.bind_some, Option.bind_none, if_true, if_false, reduceCtorEq, Nat.reduceAdd, Nat.reduceEqDiff, ite_true, ite_false, ↓reduceIte, and_true, true_and, ho]
  · have hr2 : -(lim : Int) ≤ u ∧ u ≤ lim := by rw [lim_val]; omega
    simp [start0, mkF, mkL, start0, sSeq, sIf, sRet, sSet, sSetH, sOwn, sOwnH, sSkip, sFrz, frzS, sRaise, sCallX, sRetX, eVar, eC, e1, e2, eL, aCons, aNil, aLim, bV, bAnd, bOr, bNot, eAnd, eOr, eNot, eIf, oNone, oSome, eSl, eChain, eCall, eCallL, eList, frzE, hidE, frz1_val, frz1_own, frz1_own2, frz1_none, hid1_val, hid1_own, hid1_own2, hid1_none, c1, List.map_cons, List.map_nil, List.map_append, List.map_replicate, List.replicate_succ, List.replicate_zero, List.append_eq, List.nil_append, List.cons_append, List.append_nil, List.getElem?_cons_zero, List.getElem?_cons_succ, List.set_cons_zero, List.set_cons_succ, List.length_cons, List.length_nil, Option.map_some, Option.map_none, Option.bind_some, Option.bind_none, if_true, if_false, reduceCtorEq, Nat.reduceAdd, Nat.reduceEqDiff, ite_true, ite_false, ↓reduceIte, and_true, true_and, iR1, hu, dAdd, hr2]
  · have hh : lcGo [some (scrD ns), some townD, some (.int most), some (.int parts), some (.int (c : Int)), some (.list ((m.map rowD).map .list)), none, some (.list ((perms c).map encR)), frz1 t8, frz1 t9, frz1 t10, frz1 t11] (.nm 6) bYes (eL (c1 dTuple) (aCons (eVar 6) aNil)) (m.map fun r => .list (rowD r)) n' = some (m.map encR, n') := by
      refine lc_map _ _ m fun r hr => ?_
      simp [mkF, mkL, start0, sSeq, sIf, sRet, sSet, sSetH, sOwn, sOwnH, sSkip, sFrz, frzS, sRaise, sCallX, sRetX, eVar, eC, e1, e2, eL, aCons, aNil, aLim, bV, bAnd, bOr, bNot, eAnd, eOr, eNot, eIf, oNone, oSome, eSl, eChain, eCall, eCallL, eList, frzE, hidE, frz1_val, frz1_own, frz1_own2, frz1_none, hid1_val, hid1_own, hid1_own2, hid1_none, c1, List.map_cons, List.map_nil, List.map_append, List.map_replicate, List.replicate_succ, List.replicate_zero, List.append_eq, List.nil_append, List.cons_append, List.append_nil, List.getElem?_cons_zero, List.getElem?_cons_succ, List.set_cons_zero, List.set_cons_succ, List.length_cons, List.length_nil, Option.map_some, Option.map_none, Option.bind_some, Option.bind_none, if_true, if_false, reduceCtorEq, Nat.reduceAdd, Nat.reduceEqDiff, ite_true, ite_false, ↓reduceIte, and_true, true_and, dTuple, seq?, encR, rowD]
    simp only [mkF, mkL, start0, sSeq, sIf, sRet, sSet, sSetH, sOwn, sOwnH, sSkip, sFrz, frzS, sRaise, sCallX, sRetX, eVar, eC, e1, e2, eL, aCons, aNil, aLim, bV, bAnd, bOr, bNot, eAnd, eOr, eNot, eIf, oNone, oSome, eSl, eChain, eCall, eCallL, eList, frzE, hidE, frz1_val, frz1_own, frz1_own2, frz1_none, hid1_val, hid1_own, hid1_own2, hid1_none, c1, List.map_cons, List.map_nil, List.map_append, List.map_replicate, List.replicate_succ, List.replicate_zero, List.append_eq, List.nil_append, List.cons_append, List.append_nil, List.getElem?_cons_zero, List.getElem?_cons_succ, List.set_cons_zero, List.set_cons_succ, List.length_cons, List.length_nil, Option.map_some, Option.map_none, Option.bind_some, Option.bind_none, if_true, if_false, reduceCtorEq, Nat.reduceAdd, Nat.reduceEqDiff, ite_true, ite_false, ↓reduceIte, and_true, true_and, eLc, iS, wipeE, List.map_map, dTuple, seq?]
    rw [List.map_map] at hh
    show (match (match (match lcGo [some (scrD ns), some townD, some (.int most), some (.int parts), some (.int (c : Int)), some (.list (m.map (PyData.list ∘ rowD))), none, some (.list ((perms c).map encR)), frz1 t8, frz1 t9, frz1 t10, frz1 t11] (.nm 6) bYes (eL (c1 dTuple) (aCons (eVar 6) aNil)) (m.map (PyData.list ∘ rowD)) n' with | some (ds, n1) => some (PyData.list ds, n1) | none => none) with | some (x, n1) => some ([x], n1) | none => none) with | some (x, n1) => _ | none => none) = _
    rw [show (m.map (PyData.list ∘ rowD)) = m.map fun r => .list (rowD r) from rfl] at hh ⊢
    rw [hh]
    rfl

/-! ### sums -/
def sumN : Nat → (Nat → Int) → Int
  | 0, _ => 0
  | n + 1, f => sumN n f + f n
theorem sumN_congr {f g : Nat → Int} : ∀ {n : Nat}, (∀ i, i < n → f i = g i) → sumN n f = sumN n g
  | 0, _ => rfl
  | n + 1, h => by
    unfold sumN
    rw [sumN_congr (n := n) fun i hi => h i (by omega), h n (by omega)]
theorem sumN_add (f g : Nat → Int) : ∀ n : Nat, sumN n (fun i => f i + g i) = sumN n f + sumN n g
  | 0 => rfl
  | n + 1 => by
    show sumN n (fun i => f i + g i) + (f n + g n) = sumN n f + f n + (sumN n g + g n)
    rw [sumN_add f g n]
    omega
theorem sumN_zero : ∀ n : Nat, sumN n (fun _ => 0) = 0
  | 0 => rfl
  | n + 1 => by unfold sumN; rw [sumN_zero n]; rfl
theorem sumN_const (k : Int) : ∀ n : Nat, sumN n (fun _ => k) = n * k
  | 0 => by simp [sumN]
  | n + 1 => by
    unfold sumN
    rw [sumN_const k n, Int.natCast_succ, Int.add_mul, Int.one_mul]
theorem sumN_swap (f : Nat → Nat → Int) (k : Nat) : ∀ n : Nat, sumN n (fun i => sumN k (fun j => f i j)) = sumN k (fun j => sumN n (fun i => f i j))
  | 0 => (sumN_zero k).symm
  | n + 1 => by
    show sumN n (fun i => sumN k (fun j => f i j)) + sumN k (fun j => f n j) = _
    rw [sumN_swap f k n, ← sumN_add]
    rfl
theorem sumN_le {f g : Nat → Int} : ∀ {n : Nat}, (∀ i, i < n → f i ≤ g i) → sumN n f ≤ sumN n g
  | 0, _ => Int.le_refl _
  | n + 1, h => by
    unfold sumN
    have := sumN_le (n := n) fun i hi => h i (by omega)
    have := h n (by omega)
    omega
/-- all parts at most, the sums equal: all parts equal -/
theorem sumN_eq {f g : Nat → Int} : ∀ {n : Nat}, (∀ i, i < n → f i ≤ g i) → sumN n f = sumN n g → ∀ i, i < n → f i = g i
  | 0, _, _, i, hi => by omega
  | n + 1, h, e, i, hi => by
    unfold sumN at e
    have l := sumN_le (n := n) fun i hi => h i (by omega)
    have l2 := h n (by omega)
    by_cases hn : i = n
    · subst hn; omega
    · exact sumN_eq (n := n) (fun i hi => h i (by omega)) (by omega) i (by omega)
theorem sumN_point (k : Nat) (w : Int) : ∀ n : Nat, sumN n (fun i => if i = k then w else 0) = if k < n then w else 0
  | 0 => by simp [sumN]
  | n + 1 => by
    show sumN n (fun i => if i = k then w else 0) + (if n = k then w else 0) = _
    rw [sumN_point k w n]
    by_cases h1 : k < n
    · rw [if_pos h1, if_neg (by omega), if_pos (by omega)]; omega
    · by_cases h2 : n = k
      · rw [if_neg h1, if_pos h2, if_pos (by omega)]; omega
      · rw [if_neg h1, if_neg h2, if_neg (by omega)]; omega
theorem sumN_upd {f g : Nat → Int} {n k : Nat} {w : Int} (hk : k < n) (h : ∀ i, i < n → g i = f i + if i = k then w else 0) : sumN n g = sumN n f + w := by
  rw [sumN_congr h, sumN_add, sumN_point, if_pos hk]
theorem sumN_nonneg {f : Nat → Int} {n : Nat} (h : ∀ i, i < n → 0 ≤ f i) : 0 ≤ sumN n f := by
  have := sumN_le (f := fun _ => 0) h
  rw [sumN_zero] at this
  exact this
theorem sumN_part {f : Nat → Int} : ∀ {n : Nat}, (∀ i, i < n → 0 ≤ f i) → ∀ i, i < n → f i ≤ sumN n f
  | 0, _, i, hi => by omega
  | n + 1, h, i, hi => by
    unfold sumN
    have h0 := sumN_nonneg (n := n) fun i hi => h i (by omega)
    have := h n (by omega)
    by_cases hn : i = n
    · subst hn; omega
    · have := sumN_part (n := n) (fun i hi => h i (by omega)) i (by omega)
      omega
theorem sum_take (l : List Int) : ∀ k, k ≤ l.length → sumN k (fun i => l.getD i 0) = (l.take k).sum
  | 0, _ => by simp [sumN]
  | k + 1, h => by
    have hk : k < l.length := h
    show sumN k (fun i => l.getD i 0) + l.getD k 0 = _
    rw [sum_take l k (by omega), ← List.take_append_getElem hk, List.sum_append, getD_lt hk]
    simp
theorem sum_getD (l : List Int) : l.sum = sumN l.length (fun i => l.getD i 0) := by
  rw [sum_take l l.length (Nat.le_refl _), List.take_length]
/-! ### entries -/
def at2 (m : Mt) (i j : Nat) : Int := (m.getD i []).getD j 0
def rowS (c : Nat) (m : Mt) (i : Nat) : Int := sumN c (fun j => at2 m i j)
def colS (c : Nat) (m : Mt) (j : Nat) : Int := sumN c (fun i => at2 m i j)
def allS (c : Nat) (m : Mt) : Int := sumN c (rowS c m)
theorem allS_cols (c : Nat) (m : Mt) : allS c m = sumN c (colS c m) := sumN_swap (at2 m) c c
theorem row_sum {c : Nat} {m : Mt} (h : Sqr c m) {i : Nat} (hi : i < c) : (m.getD i []).sum = rowS c m i := by
  rw [sum_getD, h.get hi]; rfl
theorem col_sum {c : Nat} {m : Mt} (h : Sqr c m) {j : Nat} : colSum m j = colS c m j := by
  unfold colSum colS
  rw [sum_getD, List.length_map, h.len]
  refine sumN_congr fun i hi => ?_
  have hl : i < m.length := by rw [h.len]; exact hi
  unfold at2
  rw [getD_lt (by simpa using hl), getD_lt hl]
  simp
theorem mem_get {α : Type} {l : List α} {x d : α} (h : x ∈ l) : ∃ i, i < l.length ∧ l.getD i d = x := by
  obtain ⟨i, hi, e⟩ := List.getElem_of_mem h
  exact ⟨i, hi, by rw [getD_lt hi]; exact e⟩
theorem mem_lineSums {c : Nat} {m : Mt} (h : Sqr c m) {z : Int} : z ∈ lineSums m ↔ (∃ i, i < c ∧ z = rowS c m i) ∨ ∃ j, j < c ∧ z = colS c m j := by
  unfold lineSums
  rw [List.mem_append, List.mem_map, List.mem_map]
  constructor
  · rintro (⟨r, hr, rfl⟩ | ⟨j, hj, rfl⟩)
    · obtain ⟨i, hi, rfl⟩ := mem_get (d := []) hr
      rw [h.len] at hi
      exact .inl ⟨i, hi, row_sum h hi⟩
    · rw [List.mem_range, h.len] at hj
      exact .inr ⟨j, hj, col_sum h⟩
  · rintro (⟨i, hi, rfl⟩ | ⟨j, hj, rfl⟩)
    · exact .inl ⟨m.getD i [], getD_mem' (by rw [h.len]; exact hi), row_sum h hi⟩
    · exact .inr ⟨j, by rw [List.mem_range, h.len]; exact hj, col_sum h⟩
theorem row_le_deg {c : Nat} {m : Mt} (h : Sqr c m) {i : Nat} (hi : i < c) : rowS c m i ≤ deg m := maxL_ge ((mem_lineSums h).2 (.inl ⟨i, hi, rfl⟩))
theorem col_le_deg {c : Nat} {m : Mt} (h : Sqr c m) {j : Nat} (hj : j < c) : colS c m j ≤ deg m := maxL_ge ((mem_lineSums h).2 (.inr ⟨j, hj, rfl⟩))
/-- all line sums are the same -/
def EvenC (c : Nat) (m : Mt) (t : Int) : Prop := (∀ i, i < c → rowS c m i = t) ∧ ∀ j, j < c → colS c m j = t
theorem ev_all {c : Nat} {m : Mt} (h : Sqr c m) (t : Int) : (∀ z ∈ lineSums m, z = t) ↔ EvenC c m t := by
  constructor
  · intro q
    exact ⟨fun i hi => q _ ((mem_lineSums h).2 (.inl ⟨i, hi, rfl⟩)), fun j hj => q _ ((mem_lineSums h).2 (.inr ⟨j, hj, rfl⟩))⟩
  · intro q z hz
    rcases (mem_lineSums h).1 hz with ⟨i, hi, rfl⟩ | ⟨j, hj, rfl⟩
    · exact q.1 i hi
    · exact q.2 j hj
theorem ev_iff {c : Nat} {m : Mt} (h : Sqr c m) (hc : 1 ≤ c) : isEv m = true ↔ EvenC c m (deg m) := by
  have hne : lineSums m ≠ [] := lineSums_ne (by rw [h.len]; exact hc)
  rw [← ev_all h]
  unfold isEv deg
  constructor
  · intro e z hz
    have e := of_decide_eq_true e
    have := maxL_ge hz
    have := minL_le hz
    omega
  · intro q
    exact decide_eq_true (q _ (minL_mem hne))
/-- one entry more -/
def upd2 (m : Mt) (i j : Nat) (w : Int) : Mt := m.set i (addRow (m.getD i []) j w)
theorem upd2_sqr {c : Nat} {m : Mt} (h : Sqr c m) {i j : Nat} (hi : i < c) {w : Int} : Sqr c (upd2 m i j w) := h.set i (by rw [addRow_len]; exact h.get hi)
theorem upd2_at {c : Nat} {m : Mt} (h : Sqr c m) {i j : Nat} (hi : i < c) (hj : j < c) (w : Int) (a b : Nat) : at2 (upd2 m i j w) a b = at2 m a b + if a = i ∧ b = j then w else 0 := by
  unfold at2 upd2
  have hl : i < m.length := by rw [h.len]; exact hi
  by_cases ha : a = i
  · subst ha
    have e : (m.set a (addRow (m.getD a []) j w)).getD a [] = addRow (m.getD a []) j w := by
      simp [List.getD, hl]
    rw [e]
    unfold addRow
    have hj' : j < (m.getD a []).length := by rw [h.get hi]; exact hj
    by_cases hb : b = j
    · subst hb
      simp only [and_self, if_true]
      rw [List.getD, List.getElem?_set, if_pos rfl, if_pos hj']
      rfl
    · rw [if_neg (by intro z; exact hb z.2), getD_set_ne (Ne.symm hb)]
      omega
  · rw [if_neg (by intro z; exact ha z.1), getD_set_ne (Ne.symm ha)]
    omega
theorem upd2_row {c : Nat} {m : Mt} (h : Sqr c m) {i j : Nat} (hi : i < c) (hj : j < c) (w : Int) (a : Nat) : rowS c (upd2 m i j w) a = rowS c m a + if a = i then w else 0 := by
  unfold rowS
  by_cases ha : a = i
  · rw [if_pos ha]
    refine sumN_upd hj fun b hb => ?_
    rw [upd2_at h hi hj]
    simp [ha]
  · rw [if_neg ha, Int.add_zero]
    refine sumN_congr fun b hb => ?_
    rw [upd2_at h hi hj, if_neg (by intro z; exact ha z.1), Int.add_zero]
theorem upd2_col {c : Nat} {m : Mt} (h : Sqr c m) {i j : Nat} (hi : i < c) (hj : j < c) (w : Int) (b : Nat) : colS c (upd2 m i j w) b = colS c m b + if b = j then w else 0 := by
  unfold colS
  by_cases hb : b = j
  · rw [if_pos hb]
    refine sumN_upd hi fun a ha => ?_
    rw [upd2_at h hi hj]
    simp [hb]
  · rw [if_neg hb, Int.add_zero]
    refine sumN_congr fun a ha => ?_
    rw [upd2_at h hi hj, if_neg (by intro z; exact hb z.2), Int.add_zero]
theorem mat_ext {c : Nat} {m k : Mt} (h : Sqr c m) (h' : Sqr c k) (e : ∀ i j, i < c → j < c → at2 m i j = at2 k i j) : m = k := by
  refine List.ext_getElem (by rw [h.len, h'.len]) fun i h1 h2 => ?_
  have hi : i < c := by rw [← h.len]; exact h1
  have r1 : m[i].length = c := h.row _ (List.getElem_mem h1)
  have r2 : k[i].length = c := h'.row _ (List.getElem_mem h2)
  refine List.ext_getElem (by rw [r1, r2]) fun j h3 h4 => ?_
  have := e i j hi (by rw [← r1]; exact h3)
  unfold at2 at this
  rw [getD_lt h1, getD_lt h2, getD_lt h3, getD_lt h4] at this
  exact this
/-! ### raising -/
def room (t : Int) (c : Nat) (m : Mt) (i j : Nat) : Int := min (t - rowS c m i) (t - colS c m j)
def liftRow (t : Int) (c : Nat) (i : Nat) : Nat → Nat → Mt → Mt
  | _, 0, m => m
  | j, k + 1, m => liftRow t c i (j + 1) k (upd2 m i j (room t c m i j))
def liftAll (t : Int) (c : Nat) : Nat → Nat → Mt → Mt
  | _, 0, m => m
  | i, k + 1, m => liftAll t c (i + 1) k (liftRow t c i 0 c m)
def lift (m : Mt) : Mt := liftAll (deg m) m.length 0 m.length m
/-- what stands while m is raised to g, all places before (i, j) done -/
structure LInv (c : Nat) (t : Int) (m g : Mt) (D : Nat → Nat → Prop) : Prop where
  sqr : Sqr c g
  ge : ∀ a b, at2 m a b ≤ at2 g a b
  row : ∀ a, a < c → rowS c g a ≤ t
  col : ∀ b, b < c → colS c g b ≤ t
  done : ∀ a b, a < c → b < c → D a b → rowS c g a = t ∨ colS c g b = t
  same : EvenC c m t → g = m
theorem LInv.step {c : Nat} {t : Int} {m g : Mt} {D : Nat → Nat → Prop} (L : LInv c t m g D) {i j : Nat} (hi : i < c) (hj : j < c) : LInv c t m (upd2 g i j (room t c g i j)) (fun a b => D a b ∨ (a = i ∧ b = j)) := by
  have w0 : 0 ≤ room t c g i j := by
    have := L.row i hi
    have := L.col j hj
    unfold room
    omega
  have w1 : room t c g i j ≤ t - rowS c g i := Int.min_le_left ..
  have w2 : room t c g i j ≤ t - colS c g j := Int.min_le_right ..
  have w3 : room t c g i j = t - rowS c g i ∨ room t c g i j = t - colS c g j := by unfold room; omega
  refine ⟨upd2_sqr L.sqr hi, fun a b => ?_, fun a ha => ?_, fun b hb => ?_, fun a b ha hb d => ?_, fun e => ?_⟩
  · rw [upd2_at L.sqr hi hj]
    have := L.ge a b
    split <;> omega
  · rw [upd2_row L.sqr hi hj]
    have := L.row a ha
    split
    · rename_i e; subst e; omega
    · omega
  · rw [upd2_col L.sqr hi hj]
    have := L.col b hb
    split
    · rename_i e; subst e; omega
    · omega
  · rw [upd2_row L.sqr hi hj, upd2_col L.sqr hi hj]
    have r := L.row a ha
    have k := L.col b hb
    rcases d with d | ⟨rfl, rfl⟩
    · rcases L.done a b ha hb d with z | z
      · left; split
        · rename_i e; subst e; omega
        · omega
      · right; split
        · rename_i e; subst e; omega
        · omega
    · rw [if_pos rfl, if_pos rfl]
      omega
  · have eg := L.same e
    subst eg
    have e0 : room t c g i j = 0 := by
      unfold room
      rw [e.1 i hi, e.2 j hj]
      omega
    refine mat_ext (upd2_sqr L.sqr hi) L.sqr fun a b _ _ => ?_
    rw [upd2_at L.sqr hi hj, e0]
    simp
theorem LInv.less {c : Nat} {t : Int} {m g : Mt} {D D' : Nat → Nat → Prop} (L : LInv c t m g D) (h : ∀ a b, a < c → b < c → D' a b → D a b) : LInv c t m g D' := ⟨L.sqr, L.ge, L.row, L.col, fun a b ha hb d => L.done a b ha hb (h a b ha hb d), L.same⟩
theorem liftRow_inv {c : Nat} {t : Int} {m : Mt} {i : Nat} (hi : i < c) : ∀ (k j : Nat) {g : Mt} {D : Nat → Nat → Prop}, j + k = c → LInv c t m g (fun a b => D a b ∨ (a = i ∧ b < j)) → LInv c t m (liftRow t c i j k g) (fun a b => D a b ∨ a = i)
  | 0, j, g, D, e, L => L.less fun a b ha hb d => d.imp_right fun z => ⟨z, by omega⟩
  | k + 1, j, g, D, e, L => by
    refine liftRow_inv hi k (j + 1) (by omega) ((L.step hi (j := j) (by omega)).less fun a b ha hb d => ?_)
    rcases d with d | ⟨d1, d2⟩
    · exact .inl (.inl d)
    · by_cases hb' : b = j
      · exact .inr ⟨d1, hb'⟩
      · exact .inl (.inr ⟨d1, by omega⟩)
theorem liftAll_inv {c : Nat} {t : Int} {m : Mt} : ∀ (k i : Nat) {g : Mt}, i + k = c → LInv c t m g (fun a _ => a < i) → LInv c t m (liftAll t c i k g) (fun _ _ => True)
  | 0, i, g, e, L => L.less fun a b ha hb d => by omega
  | k + 1, i, g, e, L => by
    refine liftAll_inv k (i + 1) (by omega) ((liftRow_inv (i := i) (by omega) c 0 (D := fun a _ => a < i) (by omega) (L.less fun a b ha hb d => ?_)).less fun a b ha hb d => ?_)
    · rcases d with d | d
      · exact d
      · omega
    · by_cases h : a = i
      · exact .inr h
      · exact .inl (by omega)
/-- the raised matrix: all sums the same, no entry lowered, an even matrix as it was -/
theorem lift_spec {c : Nat} {m : Mt} (h : Sqr c m) (hc : 1 ≤ c) : Sqr c (lift m) ∧ (∀ a b, at2 m a b ≤ at2 (lift m) a b) ∧ EvenC c (lift m) (deg m) ∧ (EvenC c m (deg m) → lift m = m) := by
  have L : LInv c (deg m) m (lift m) (fun _ _ => True) := by
    unfold lift
    rw [h.len]
    exact liftAll_inv c 0 (by omega) ⟨h, fun _ _ => Int.le_refl _, fun a ha => row_le_deg h ha, fun b hb => col_le_deg h hb, fun a b _ _ d => by omega, fun _ => rfl⟩
  refine ⟨L.sqr, L.ge, ?_, L.same⟩
  generalize lift m = g at L
  have tot : sumN c (rowS c g) = sumN c (colS c g) := allS_cols c g
  by_cases hr : ∀ i, i < c → rowS c g i = deg m
  · refine ⟨hr, ?_⟩
    have e : sumN c (colS c g) = sumN c (fun _ => deg m) := by rw [← tot]; exact sumN_congr hr
    exact sumN_eq (fun j hj => L.col j hj) e
  · have : ∃ i, i < c ∧ rowS c g i ≠ deg m := Classical.byContradiction fun z => hr fun i hi => Classical.byContradiction fun q => z ⟨i, hi, q⟩
    obtain ⟨i, hi, ne⟩ := this
    have hcol : ∀ j, j < c → colS c g j = deg m := fun j hj => (L.done i j hi hj trivial).resolve_left ne
    have e : sumN c (rowS c g) = sumN c (fun _ => deg m) := by rw [tot]; exact sumN_congr hcol
    exact ⟨sumN_eq (fun j hj => L.row j hj) e, hcol⟩
theorem liftRow_sqr {c : Nat} {t : Int} {i : Nat} (hi : i < c) : ∀ (k j : Nat) {g : Mt}, Sqr c g → Sqr c (liftRow t c i j k g)
  | 0, _, _, h => h
  | k + 1, j, _, h => liftRow_sqr hi k (j + 1) (upd2_sqr h hi)

/-! ### step by step: expressions -/
section
variable {env : En} {n n1 n2 n3 : Nat}
theorem e1_ok {F : D → Option D} {f : FE} {x d : D} (h : f env n = some (x, n1)) (hF : F x = some d) : e1 F f env n = some (d, n1) := by unfold e1; rw [h]; simp only [hF, Option.map_some]
theorem e2_ok {F : D → D → Option D} {f g : FE} {x y d : D} (h : f env n = some (x, n1)) (h2 : g env n1 = some (y, n2)) (hF : F x y = some d) : e2 F f g env n = some (d, n2) := by unfold e2; rw [h]; simp only [h2, hF, Option.map_some]
theorem eL_ok {F : List D → Option D} {f : Fe (List D)} {xs : List D} {d : D} (h : f env n = some (xs, n1)) (hF : F xs = some d) : eL F f env n = some (d, n1) := by unfold eL; rw [h]; simp only [hF, Option.map_some]
theorem aCons_ok {f : FE} {g : Fe (List D)} {x : D} {xs : List D} (h : f env n = some (x, n1)) (h2 : g env n1 = some (xs, n2)) : aCons f g env n = some (x :: xs, n2) := by unfold aCons; rw [h]; simp only [h2]
theorem a1_ok {f : FE} {x : D} (h : f env n = some (x, n1)) : aCons f aNil env n = some ([x], n1) := aCons_ok h rfl
theorem a2_ok {f g : FE} {x y : D} (h : f env n = some (x, n1)) (h2 : g env n1 = some (y, n2)) : aCons f (aCons g aNil) env n = some ([x, y], n2) := aCons_ok h (a1_ok h2)
theorem eL1_ok {F : D → Option D} {f : FE} {x d : D} (h : f env n = some (x, n1)) (hF : F x = some d) : eL (c1 F) (aCons f aNil) env n = some (d, n1) := eL_ok (a1_ok h) hF
theorem eList_ok {f : Fe (List D)} {xs : List D} (h : f env n = some (xs, n1)) : eList f env n = some (.list xs, n1) := by unfold eList; rw [h]
theorem eLc_ok {own : List Nat} {fi : Fe (List D)} {t : Tg} {ft : Fe Bool} {fe : FE} {items xs : List D} (h : fi env n = some (items, n1)) (h2 : lcGo (wipeE env own) t ft fe items n1 = some (xs, n2)) : eLc own fi t ft fe env n = some (xs, n2) := by unfold eLc; rw [h]; exact h2
theorem eLc2_ok {own : List Nat} {fi : Fe (List D)} {t : Tg} {fe : Fe (List D)} {items : List D} {xs : List (List D)} (h : fi env n = some (items, n1)) (h2 : lcGo2 (wipeE env own) t fe items n1 = some (xs, n2)) : eLc2 own fi t fe env n = some (xs, n2) := by unfold eLc2; rw [h]; exact h2
theorem iS_l {f : FE} {ds : List D} (h : f env n = some (.list ds, n1)) : iS f env n = some (ds, n1) := by unfold iS; rw [h]
theorem iS_t {f : FE} {ds : List D} (h : f env n = some (.tuple ds, n1)) : iS f env n = some (ds, n1) := by unfold iS; rw [h]
theorem iZ_t {f : Fe (List D)} {xs ys : List D} (h : f env n = some ([.tuple xs, .tuple ys], n1)) : iZ f env n = some (zipD xs ys, n1) := by unfold iZ; rw [h]
theorem iR1_ok {f : FE} {c : Nat} (h : f env n = some (.int (c : Int), n1)) (hc : c ≤ lim) : iR1 (aCons f aNil) env n = some ((List.range c).map fun i => .int ((0 + i : Nat) : Int), n1) := by
  unfold iR1
  rw [a1_ok h]
  simp only
  rw [if_pos (by omega), Int.toNat_natCast, rngD_eq]
  simp
theorem bV_ok {f : FE} {b : Bool} (h : f env n = some (.bool b, n1)) : bV f env n = some (b, n1) := by unfold bV; rw [h]
theorem bNot_ok {f : Fe Bool} {b : Bool} (h : f env n = some (b, n1)) : bNot f env n = some (!b, n1) := by unfold bNot; rw [h]
theorem bAnd_f {f g : Fe Bool} (h : f env n = some (false, n1)) : bAnd f g env n = some (false, n1) := by unfold bAnd; rw [h]
theorem bAnd_t {f g : Fe Bool} {b : Bool} (h : f env n = some (true, n1)) (h2 : g env n1 = some (b, n2)) : bAnd f g env n = some (b, n2) := by unfold bAnd; rw [h]; exact h2
theorem bOr_t {f g : Fe Bool} (h : f env n = some (true, n1)) : bOr f g env n = some (true, n1) := by unfold bOr; rw [h]
theorem bOr_f {f g : Fe Bool} {b : Bool} (h : f env n = some (false, n1)) (h2 : g env n1 = some (b, n2)) : bOr f g env n = some (b, n2) := by unfold bOr; rw [h]; exact h2
theorem bAnd_ok {f g : Fe Bool} {a b : Bool} (h : f env n = some (a, n)) (h2 : a = true → g env n = some (b, n)) : bAnd f g env n = some (a && b, n) := by
  cases a with
  | false => exact bAnd_f h
  | true => exact bAnd_t h (h2 rfl)
theorem bOr_ok {f g : Fe Bool} {a b : Bool} (h : f env n = some (a, n)) (h2 : a = false → g env n = some (b, n)) : bOr f g env n = some (a || b, n) := by
  cases a with
  | true => exact bOr_t h
  | false => exact bOr_f h (h2 rfl)
theorem call_ok {m : Fn} {fs : Fe (List D)} {ds : List D} {d : D} (h : fs env n = some (ds, n1)) (hm : m ds n1 = some (.ok d, n2)) : eCall m fs env n = some (d, n2) := by unfold eCall; rw [h]; simp only [hm]
end
/-- the next of a row of numbers -/
theorem rng_cons (k t : Nat) : ((List.range (t + 1)).map fun i => PyData.int ((k + i : Nat) : Int)) = .int (k : Int) :: (List.range t).map fun i => PyData.int ((k + 1 + i : Nat) : Int) := by
  rw [List.range_succ_eq_map, List.map_cons, List.map_map]
  have e : ((fun (i : Nat) => PyData.int ((k + i : Nat) : Int)) ∘ Nat.succ) = fun (i : Nat) => PyData.int ((k + 1 + i : Nat) : Int) := by
    funext i
    simp only [Function.comp]
    congr 1
    omega
  rw [e]
  rfl
theorem sCallX_ok {m : Fn} {fs : Fe (List D)} {S : Es} {n n1 n2 : Nat} {ds : List D} {d : D} (h : fs (frzE S) n = some (ds, n1)) (hm : m ds n1 = some (.ok d, n2)) : sCallX m fs S n = some (.nx S, n2) := by unfold sCallX; rw [h]; simp only [hm]
theorem sPar_ok {i j : Nat} {fs : Fe (List D)} {S : Es} {n n1 : Nat} {d e : D} (h : fs (frzE S) n = some ([d, e], n1)) (h1 : lf d = true) (h2 : lf e = true) : sPar i j fs S n = some (.nx ((S.set i (some (.val d))).set j (some (.val e))), n1) := by unfold sPar; rw [h]; simp only [h1, h2, Bool.and_self, if_true]
/-- rows[i][j] op= e, numbers -/
theorem sAug2_ok {r i j : Nat} {fi fj fe : FE} {g : Int → Int → Int} {S : Es} {n n1 n2 n3 : Nat} {m : Mt} {w : Int} (hS : S[r]? = some (some (.own2 (m.map rowD)))) (hi : fi (frzE S) n = some (.int (i : Int), n1)) (hj : fj (frzE S) n1 = some (.int (j : Int), n2)) (he : fe (frzE S) n2 = some (.int w, n3)) (il : i < m.length) (jl : j < (m.getD i []).length) :
    sAug2 r fi fj fe g S n = some (.nx (S.set r (some (.own2 ((m.set i ((m.getD i []).set j (g ((m.getD i []).getD j 0) w))).map rowD)))), n3) := by
  have hg : (m.map rowD)[i]? = some (rowD (m.getD i [])) := by
    rw [List.getElem?_map, List.getElem?_eq_getElem il]
    simp [List.getD, il]
  have hg2 : (rowD (m.getD i []))[j]? = some (.int ((m.getD i []).getD j 0)) := by
    unfold rowD
    rw [List.getElem?_map, List.getElem?_eq_getElem jl, getD_lt jl]
    rfl
  unfold sAug2
  simp only [hS, hi, hj, he, Int.toNat_natCast, hg, hg2]
  rw [if_pos ⟨by omega, by omega⟩, List.map_set]
  unfold rowD
  rw [List.map_set]
theorem ix_int {r : Row} {j : Nat} (h : j < r.length) : dIx (.list (rowD r)) (.int (j : Int)) = some (.int (r.getD j 0)) := ix_l r j h
theorem ix_m {c : Nat} {m : Mt} (h : Sqr c m) {i : Nat} (hi : i < c) : dIx (encM m) (.int (i : Int)) = some (encR (m.getD i [])) := by
  have hl : i < m.length := by rw [h.len]; exact hi
  unfold dIx encM
  simp only
  rw [atI_map, atI_nat' hl]
  simp [List.getD, hl]
theorem ix_ml {c : Nat} {m : Mt} (h : Sqr c m) {i : Nat} (hi : i < c) : dIx (.list ((m.map rowD).map .list)) (.int (i : Int)) = some (.list (rowD (m.getD i []))) := by
  have hl : i < m.length := by rw [h.len]; exact hi
  rw [ix_ll _ _ (by simpa using hl), getD_rowD _ _ hl]
/-- rows as a tuple of tuples -/
--
theorem tups_ok {env : En} {k : Nat} {n : Nat} (m : Mt) : lcGo env (.nm k) bYes (eL (c1 dTuple) (aCons (eVar k) aNil)) (m.map fun r => .list (rowD r)) n = some (m.map encR, n) ∨ env.length ≤ k := by
  by_cases hk : k < env.length
  · left
    refine lc_map _ _ m fun r hr => ?_
    refine eL1_ok (x := .list (rowD r)) ?_ rfl
    unfold eVar
    rw [List.getElem?_set_self hk]
  · right; omega

/-! ### == on data without bools -/
mutual
def nb : D → Bool
  | .none => true
  | .int _ => true
  | .str x => PyData.strOk x
  | .list xs => nbL xs
  | .tuple xs => nbL xs
  | .bool _ => false
  | .dict _ => false
def nbL : List D → Bool
  | [] => true
  | x :: xs => nb x && nbL xs
end
mutual
theorem eqv_inj : ∀ (d e : D), nb d = true → nb e = true → PyData.eqv d e = true → d = e
  | .none, e, _, h2, h => by cases e <;> simp_all [PyData.eqv, nb]
  | .int i, e, _, h2, h => by cases e <;> simp_all [PyData.eqv, nb]
  | .str x, e, _, h2, h => by cases e <;> simp_all [PyData.eqv, nb]
  | .list xs, e, h1, h2, h => by
    cases e with
    | list ys =>
      rw [PyData.eqv] at h
      rw [nb] at h1 h2
      rw [eqvAll_inj xs ys h1 h2 h]
    | _ => simp [PyData.eqv] at h
  | .tuple xs, e, h1, h2, h => by
    cases e with
    | tuple ys =>
      rw [PyData.eqv] at h
      rw [nb] at h1 h2
      rw [eqvAll_inj xs ys h1 h2 h]
    | _ => simp [PyData.eqv] at h
  | .bool b, e, h1, _, _ => by simp [nb] at h1
  | .dict b, e, h1, _, _ => by simp [nb] at h1
theorem eqvAll_inj : ∀ (xs ys : List D), nbL xs = true → nbL ys = true → PyData.eqvAll xs ys = true → xs = ys
  | [], [], _, _, _ => rfl
  | [], _ :: _, _, _, h => by simp [PyData.eqvAll] at h
  | _ :: _, [], _, _, h => by simp [PyData.eqvAll] at h
  | x :: xs, y :: ys, h1, h2, h => by
    rw [PyData.eqvAll, Bool.and_eq_true] at h
    rw [nbL, Bool.and_eq_true] at h1 h2
    rw [eqv_inj x y h1.1 h2.1 h.1, eqvAll_inj xs ys h1.2 h2.2 h.2]
end
mutual
theorem nb_lay : ∀ (d : D), nb d = true → d.canLay0 = true
  | .none, _ => rfl
  | .int _, _ => rfl
  | .str x, h => by rw [PyData.canLay0]; rw [nb] at h; exact h
  | .list xs, h => by rw [PyData.canLay0]; rw [nb] at h; exact nbL_lay xs h
  | .tuple xs, h => by rw [PyData.canLay0]; rw [nb] at h; exact nbL_lay xs h
  | .bool _, h => by simp [nb] at h
  | .dict _, h => by simp [nb] at h
theorem nbL_lay : ∀ (xs : List D), nbL xs = true → PyData.canLayAll0 xs = true
  | [], _ => rfl
  | x :: xs, h => by
    rw [nbL, Bool.and_eq_true] at h
    rw [PyData.canLayAll0, nb_lay x h.1, nbL_lay xs h.2]; rfl
end
/-- without bools, of depth at most k -/
def G (k : Nat) (d : D) : Prop := nb d = true ∧ d.depth ≤ k
theorem G.mono {k l : Nat} {d : D} (h : G k d) (hl : k ≤ l) : G l d := ⟨h.1, Nat.le_trans h.2 hl⟩
theorem nbL_all {xs : List D} (h : ∀ x ∈ xs, nb x = true) : nbL xs = true := by
  induction xs with
  | nil => rfl
  | cons d r ih => rw [nbL, h d List.mem_cons_self, ih fun e he => h e (List.mem_cons_of_mem _ he)]; rfl
theorem depthAll_le {k : Nat} : ∀ {xs : List D}, (∀ x ∈ xs, x.depth ≤ k) → PyData.depthAll xs ≤ k
  | [], _ => Nat.zero_le _
  | x :: xs, h => by
    rw [PyData.depthAll]
    exact Nat.max_le.2 ⟨h x List.mem_cons_self, depthAll_le fun y hy => h y (List.mem_cons_of_mem _ hy)⟩
theorem G_int (k : Nat) (i : Int) : G k (.int i) := ⟨rfl, Nat.zero_le _⟩
theorem G_none (k : Nat) : G k .none := ⟨rfl, Nat.zero_le _⟩
theorem G_tup {k : Nat} {xs : List D} (h : ∀ x ∈ xs, G k x) : G (k + 1) (.tuple xs) := ⟨by rw [nb]; exact nbL_all fun x hx => (h x hx).1, by rw [PyData.depth]; exact Nat.succ_le_succ (depthAll_le fun x hx => (h x hx).2)⟩
theorem G_lst {k : Nat} {xs : List D} (h : ∀ x ∈ xs, G k x) : G (k + 1) (.list xs) := ⟨by rw [nb]; exact nbL_all fun x hx => (h x hx).1, by rw [PyData.depth]; exact Nat.succ_le_succ (depthAll_le fun x hx => (h x hx).2)⟩
theorem G_map {α : Type} {k : Nat} {f : α → D} {l : List α} (h : ∀ x ∈ l, G k (f x)) : ∀ d ∈ l.map f, G k d := fun d hd => by
  obtain ⟨x, hx, rfl⟩ := List.mem_map.mp hd
  exact h x hx
theorem G_row (r : Row) : G 1 (encR r) := G_tup (G_map fun x _ => G_int 0 x)
theorem G_mat (m : Mt) : G 2 (encM m) := G_tup (G_map fun r _ => G_row r)
theorem G_ints (l : List Int) : G 1 (.list (l.map .int)) := G_lst (G_map fun x _ => G_int 0 x)
theorem G.shaped {k : Nat} {d : D} (h : G k d) (hk : k ≤ 64) : SeqAt.shaped d = true := by
  unfold SeqAt.shaped
  rw [nb_lay d h.1, decide_eq_true (Nat.le_trans h.2 hk)]
  rfl
theorem dEq_t {k : Nat} {d : D} (h : G k d) (hk : k ≤ 64) : dEq d d = some (.bool true) := by
  unfold dEq
  rw [h.shaped hk, SeqAt.eqv_refl d (nb_lay d h.1)]
  rfl
theorem dEq_f {k : Nat} {d e : D} (h : G k d) (h2 : G k e) (hk : k ≤ 64) (hne : d ≠ e) : dEq d e = some (.bool false) := by
  unfold dEq
  rw [h.shaped hk, h2.shaped hk]
  cases hq : PyData.eqv d e with
  | false => rfl
  | true => exact absurd (eqv_inj d e h.1 h2.1 hq) hne
theorem dNe_f {k : Nat} {d : D} (h : G k d) (hk : k ≤ 64) : dNe d d = some (.bool false) := by
  unfold dNe
  rw [h.shaped hk, SeqAt.eqv_refl d (nb_lay d h.1)]
  rfl
theorem dNe_t {k : Nat} {d e : D} (h : G k d) (h2 : G k e) (hk : k ≤ 64) (hne : d ≠ e) : dNe d e = some (.bool true) := by
  unfold dNe
  rw [h.shaped hk, h2.shaped hk]
  cases hq : PyData.eqv d e with
  | false => rfl
  | true => exact absurd (eqv_inj d e h.1 h2.1 hq) hne
theorem encR_inj {a b : Row} (h : encR a = encR b) : a = b := by
  unfold encR at h
  have h := PyData.tuple.inj h
  exact (List.map_inj_right fun x y e => PyData.int.inj e).mp h
theorem encM_inj {a b : Mt} (h : encM a = encM b) : a = b := by
  unfold encM at h
  have h := PyData.tuple.inj h
  exact (List.map_inj_right fun x y e => encR_inj e).mp h
/-- == of data by a plain question -/
theorem dEq_dec {k : Nat} {d e : D} (h : G k d) (h2 : G k e) (hk : k ≤ 64) {p : Prop} [Decidable p] (hp : p ↔ d = e) : dEq d e = some (.bool (decide p)) := by
  by_cases q : p
  · rw [decide_eq_true q, ← hp.1 q]; exact dEq_t h hk
  · rw [decide_eq_false q]; exact dEq_f h h2 hk fun z => q (hp.2 z)
theorem dNe_dec {k : Nat} {d e : D} (h : G k d) (h2 : G k e) (hk : k ≤ 64) {p : Prop} [Decidable p] (hp : p ↔ d = e) : dNe d e = some (.bool (!decide p)) := by
  by_cases q : p
  · rw [decide_eq_true q, ← hp.1 q]; exact dNe_f h hk
  · rw [decide_eq_false q]; exact dNe_t h h2 hk fun z => q (hp.2 z)

/-! ### slices and such -/
theorem cut_take1 {α : Type} (xs : List α) : cutD xs none (some 1) = xs.take 1 := by
  have h : HT.sIx xs.length xs.length (some 1) = min 1 xs.length := HT.sIx_nat xs.length xs.length 1
  unfold cutD
  rw [HT.sIx_none, h, List.drop_zero, Nat.sub_zero]
  cases xs with
  | nil => rfl
  | cons a b => rw [List.length_cons, Nat.min_eq_left (by omega)]
theorem cut_drop1 {α : Type} (xs : List α) : cutD xs (some 1) none = xs.drop 1 := by
  have h : HT.sIx xs.length 0 (some 1) = min 1 xs.length := HT.sIx_nat xs.length 0 1
  unfold cutD
  rw [HT.sIx_none, h]
  cases xs with
  | nil => rfl
  | cons a b =>
    rw [List.length_cons, Nat.min_eq_left (by omega)]
    show List.take (b.length + 1 - 1) b = b
    rw [Nat.add_sub_cancel, List.take_length]
theorem sIx_m1 (n d : Nat) : HT.sIx n d (some (-1)) = n - 1 := by
  unfold HT.sIx
  simp
  omega
theorem cut_init {α : Type} (xs : List α) (x : α) : cutD (xs ++ [x]) none (some (-1)) = xs := by
  unfold cutD
  rw [HT.sIx_none, sIx_m1, List.drop_zero, Nat.sub_zero, List.length_append]
  simp
theorem ixT_last (xs : List D) (x : D) : dIx (.tuple (xs ++ [x])) (.int (-1)) = some x := by
  unfold dIx
  exact atI_last xs x
theorem isRw_len {c lo hi : Int} {xs : List D} (h : (xs.length : Int) ≠ c) : isRw c lo hi (.tuple xs) = false := by
  simp [isRw, h]
theorem isRw_item {c lo hi : Int} {xs : List D} {x : D} (hx : x ∈ xs) (h : isI x lo hi = false) : isRw c lo hi (.tuple xs) = false := by
  have : (xs.all fun x => isI x lo hi) = false := by
    rw [Bool.eq_false_iff]
    intro z
    rw [List.all_eq_true.mp z x hx] at h
    cases h
  simp [isRw, this]
theorem add_tup {a b : List D} (h : a.length + b.length ≤ lim) : dAdd (.tuple a) (.tuple b) = some (.tuple (a ++ b)) := by
  simp [dAdd, h]
theorem plL_app {a b : List D} (h1 : plL a = true) (h2 : plL b = true) : plL (a ++ b) = true := plL_all fun d hd => (List.mem_append.mp hd).elim (plL_mem h1 d) (plL_mem h2 d)

/-! ### raised -/
theorem lc2_rows {env : En} {k : Nat} {n : Nat} (hk : k < env.length) : ∀ (m : Mt), lcGo2 env (.nm k) (aSeq (aCons (eVar k) aNil)) (m.map encR) n = some (m.map rowD, n)
  | [] => rfl
  | r :: m => by
    have e : aSeq (aCons (eVar k) aNil) (env.set k (some (encR r))) n = some (rowD r, n) := by
      unfold aSeq
      rw [a1_ok (x := encR r) (n1 := n) (by unfold eVar; rw [List.getElem?_set_self hk])]
      rfl
    simp only [List.map_cons, lcGo2, bindE, e]
    rw [lc2_rows hk m]
theorem lifted_inner {c : Nat} (M : D) (t : Int) {i : Nat} (hi : i < c) (n : Nat) (s4 : Option SV) : ∀ (k j : Nat) (g : Mt) (s6 s7 : Option SV), j + k = c → Sqr c g → ∃ s6' s7',
    forGo (.nm 6) (sSeq (sSet 7 (eL dMin2 (aCons (e2 dSub (eVar 1) (eL (c1 dSum) (aCons (e2 dIx (eVar 3) (eVar 5)) aNil))) (aCons (e2 dSub (eVar 1) (eL (c1 dSum) (aCons (eList (eLc [4] (iS (eVar 3)) (.nm 4) bYes (e2 dIx (eVar 4) (eVar 6)))) aNil))) aNil))))
      (sAug2 3 (eVar 5) (eVar 6) (eVar 7) (fun i j => i + j))) ((List.range k).map fun i => .int ((j + i : Nat) : Int)) [some (.val M), some (.val (.int t)), some (.val (.int (c : Int))), some (.own2 (g.map rowD)), s4, some (.val (.int (i : Int))), s6, s7] n
    = some (.nx [some (.val M), some (.val (.int t)), some (.val (.int (c : Int))), some (.own2 ((liftRow t c i j k g).map rowD)), s4, some (.val (.int (i : Int))), s6', s7'], n)
  | 0, j, g, s6, s7, _, _ => ⟨s6, s7, rfl⟩
  | k + 1, j, g, s6, s7, hk, hg => by
    have hj : j < c := by omega
    obtain ⟨s6', s7', ih⟩ := lifted_inner M t hi n s4 k (j + 1) (upd2 g i j (room t c g i j)) (some (.val (.int (j : Int)))) (some (.val (.int (room t c g i j)))) (by omega) (upd2_sqr hg hi)
    refine ⟨s6', s7', ?_⟩
    rw [rng_cons]
    refine (forGo_nx rfl ((sSeq_nx (sSet_ok (d := .int (room t c g i j)) (n1 := n) ?_ rfl)).trans ?_)).trans ih
    · refine eL_ok (a2_ok (x := .int (t - rowS c g i)) (y := .int (t - colS c g j)) (n1 := n) ?_ ?_) ?_
      · refine e2_ok (x := .int t) (y := .int (rowS c g i)) rfl (eL1_ok (x := .list (rowD (g.getD i []))) (e2_ok rfl rfl (ix_ml hg hi)) ?_) rfl
        rw [← row_sum hg hi]
        exact sum_ints _
      · refine e2_ok (x := .int t) (y := .int (colS c g j)) rfl (eL1_ok (x := .list (g.map fun r => .int (r.getD j 0))) (eList_ok (eLc_ok (items := g.map fun r => .list (rowD r)) (n1 := n) (iS_l ?_) (lc_map _ _ g fun r hr => ?_))) ?_) rfl
        · show some (PyData.list ((g.map rowD).map .list), n) = _
          rw [List.map_map]; rfl
        · exact e2_ok rfl rfl (ix_int (by rw [hg.row r hr]; exact hj))
        · rw [show (g.map fun r => PyData.int (r.getD j 0)) = (g.map fun r => r.getD j 0).map .int by simp, sum_ints, ← col_sum hg]
          rfl
      · show some (PyData.int _) = _
        congr 2
        unfold room
        omega
    · exact sAug2_ok rfl rfl rfl rfl (by rw [hg.len]; exact hi) (by rw [hg.get hi]; exact hj)
theorem lifted_outer {c : Nat} (hc : c ≤ lim) (M : D) (t : Int) (n : Nat) (s4 : Option SV) : ∀ (k i : Nat) (g : Mt) (s5 s6 s7 : Option SV), i + k = c → Sqr c g → ∃ s5' s6' s7',
    forGo (.nm 5) (sFor (iR1 (aCons (eVar 2) aNil)) (.nm 6) (sSeq (sSet 7 (eL dMin2 (aCons (e2 dSub (eVar 1) (eL (c1 dSum) (aCons (e2 dIx (eVar 3) (eVar 5)) aNil))) (aCons (e2 dSub (eVar 1) (eL (c1 dSum) (aCons (eList (eLc [4] (iS (eVar 3)) (.nm 4) bYes (e2 dIx (eVar 4) (eVar 6)))) aNil))) aNil))))
      (sAug2 3 (eVar 5) (eVar 6) (eVar 7) (fun i j => i + j)))) ((List.range k).map fun j => .int ((i + j : Nat) : Int)) [some (.val M), some (.val (.int t)), some (.val (.int (c : Int))), some (.own2 (g.map rowD)), s4, s5, s6, s7] n
    = some (.nx [some (.val M), some (.val (.int t)), some (.val (.int (c : Int))), some (.own2 ((liftAll t c i k g).map rowD)), s4, s5', s6', s7'], n)
  | 0, i, g, s5, s6, s7, _, _ => ⟨s5, s6, s7, rfl⟩
  | k + 1, i, g, s5, s6, s7, hk, hg => by
    have hi : i < c := by omega
    obtain ⟨t6, t7, e⟩ := lifted_inner M t hi n s4 c 0 g s6 s7 (by omega) hg
    have hg' : Sqr c (liftRow t c i 0 c g) := liftRow_sqr hi c 0 hg
    obtain ⟨t5, t6, t7, ih⟩ := lifted_outer hc M t n s4 k (i + 1) (liftRow t c i 0 c g) (some (.val (.int (i : Int)))) t6 t7 (by omega) hg'
    refine ⟨t5, t6, t7, ?_⟩
    rw [rng_cons]
    exact (forGo_nx rfl ((sFor_go (iR1_ok rfl hc)).trans e)).trans ih
theorem Mv.sqr {m : Mt} (h : Mv m) : Sqr m.length m := ⟨rfl, h.sq⟩
theorem lifted_eq {m : Mt} (h : Sqr m.length m) (hp : 1 ≤ m.length) (hl : m.length ≤ 1000) (n : Nat) : m_lifted [encM m] n = some (.ok (encM (lift m)), n) := by
  obtain ⟨s5, s6, s7, e⟩ := lifted_outer (c := m.length) (by rw [lim_val]; omega) (encM m) (deg m) n none m.length 0 m none none none (by omega) h
  refine mkF_rt rfl ((sSeq_nx (sPar_ok (d := .int (deg m)) (e := .int (m.length : Int)) (n1 := n) ?_ rfl rfl)).trans ((sSeq_nx (sOwn2_ok (d := m.map rowD) (n1 := n) ?_)).trans ((sSeq_nx ((sFor_go (iR1_ok rfl (by rw [lim_val]; omega))).trans e)).trans (sRet_ok ?_))))
  · refine a2_ok (call_ok (a1_ok rfl) (degree_of_eq h.row hp hl n)) (eL1_ok (x := encM m) rfl ?_)
    simp [dLen, encM]
  · exact eLc2_ok (iS_t rfl) (lc2_rows (by show (4 : Nat) < 8; omega) m)
  · refine eL1_ok (x := .list ((lift m).map encR)) (eList_ok (eLc_ok (items := (lift m).map fun r => .list (rowD r)) (n1 := n) (iS_l ?_) ((tups_ok _).resolve_right (by show ¬ (8 : Nat) ≤ 4; omega)))) rfl
    show some (PyData.list (((liftAll (deg m) m.length 0 m.length m).map rowD).map .list), n) = _
    rw [List.map_map]; rfl
theorem raised_eq {m : Mt} (h : Mv m) (n : Nat) : m_raised [encM m] n = some (.ok (encM (lift m)), n) := by
  refine mkF_rt rfl ((sSeq_nx (sCallX_ok (d := .none) (n2 := n) (a1_ok rfl) ?_)).trans (sRet_ok (call_ok (a1_ok rfl) (lifted_eq h.sqr h.pos (by have := h.le; omega) n))))
  show m_check_matrix [encM m] n = _
  rw [check_matrix_eq _ _ (pl_mat m), isMat_enc h]
  rfl

/-! ### rows side by side -/
theorem lc_zip {env : En} {i j : Nat} {fe : FE} {n : Nat} (g : Int → Int → D) (h : ∀ x y, fe ((env.set i (some (.int x))).set j (some (.int y))) n = some (g x y, n)) : ∀ (r o : Row), lcGo env (.tp [i, j]) bYes fe (zipD (r.map .int) (o.map .int)) n = some (List.zipWith g r o, n)
  | [], _ => rfl
  | _ :: _, [] => rfl
  | x :: r, y :: o => by
    show lcGo env (.tp [i, j]) bYes fe (.tuple [.int x, .int y] :: zipD (r.map .int) (o.map .int)) n = _
    simp only [lcGo, bindE, List.length_cons, List.length_nil, if_true, setAll, bYes, h x y]
    rw [lc_zip g h r o]
    rfl
theorem lc_zipF {env : En} {i j : Nat} {ft : Fe Bool} {fe : FE} {n : Nat} (p : Int → Int → Bool) (g : Int → Int → D) (h : ∀ x y, ft ((env.set i (some (.int x))).set j (some (.int y))) n = some (p x y, n)) (h2 : ∀ x y, fe ((env.set i (some (.int x))).set j (some (.int y))) n = some (g x y, n)) : ∀ (r o : Row), lcGo env (.tp [i, j]) ft fe (zipD (r.map .int) (o.map .int)) n = some (((List.zip r o).filter fun z => p z.1 z.2).map fun z => g z.1 z.2, n)
  | [], _ => rfl
  | _ :: _, [] => rfl
  | x :: r, y :: o => by
    show lcGo env (.tp [i, j]) ft fe (.tuple [.int x, .int y] :: zipD (r.map .int) (o.map .int)) n = _
    rw [List.zip_cons_cons, List.filter_cons]
    cases hp : p x y with
    | true =>
      simp only [lcGo, bindE, List.length_cons, List.length_nil, if_true, setAll, h x y, hp, h2 x y]
      rw [lc_zipF p g h h2 r o]
      rfl
    | false =>
      simp only [lcGo, bindE, List.length_cons, List.length_nil, if_true, setAll, h x y, hp]
      rw [lc_zipF p g h h2 r o]
      rfl
def leRow (r o : Row) : Bool := (List.zipWith (fun a b => decide (a ≤ b)) r o).all id
def leMat (m v : Mt) : Bool := (List.zipWith leRow m v).all id
theorem leRow_gt : ∀ (r o : Row), (List.zipWith (fun a b => decide (b < a)) r o).any id = !leRow r o
  | [], _ => rfl
  | _ :: _, [] => rfl
  | x :: r, y :: o => by
    have ih := leRow_gt r o
    unfold leRow at ih ⊢
    simp only [List.zipWith_cons_cons, List.any_cons, List.all_cons, id, ih]
    by_cases h : x ≤ y
    · simp [h, Int.not_lt.2 h]
    · simp [h, Int.not_le.1 h]
theorem leRow_flt : ∀ (r o : Row), decide (((List.zip r o).filter fun z => decide (z.2 < z.1)).map (fun z => z.1) = []) = leRow r o
  | [], _ => rfl
  | _ :: _, [] => rfl
  | x :: r, y :: o => by
    have ih := leRow_flt r o
    unfold leRow at ih ⊢
    simp only [List.zip_cons_cons, List.zipWith_cons_cons, List.all_cons, id, List.filter_cons]
    by_cases h : x ≤ y
    · rw [if_neg (by simpa using h), ih]
      simp [h]
    · rw [if_pos (by simpa using Int.not_le.1 h)]
      simp [h]
theorem all_zip {α β : Type} {f : α → β → Bool} {da : α} {db : β} : ∀ {xs : List α} {ys : List β}, xs.length = ys.length → ((List.zipWith f xs ys).all id = true ↔ ∀ i, i < xs.length → f (xs.getD i da) (ys.getD i db) = true)
  | [], [], _ => by simp
  | x :: xs, y :: ys, h => by
    have ih := all_zip (f := f) (da := da) (db := db) (xs := xs) (ys := ys) (by simpa using h)
    simp only [List.zipWith_cons_cons, List.all_cons, id, Bool.and_eq_true, ih]
    constructor
    · rintro ⟨h1, h2⟩ i hi
      cases i with
      | zero => exact h1
      | succ i => exact h2 i (by simpa using hi)
    · intro q
      exact ⟨q 0 (by simp), fun i hi => q (i + 1) (by simpa using hi)⟩
theorem leMat_iff {c : Nat} {m v : Mt} (hm : Sqr c m) (hv : Sqr c v) : leMat m v = true ↔ ∀ i j, i < c → j < c → at2 m i j ≤ at2 v i j := by
  unfold leMat
  rw [all_zip (da := []) (db := []) (by rw [hm.len, hv.len]), hm.len]
  constructor
  · intro q i j hi hj
    have := q i hi
    unfold leRow at this
    rw [all_zip (da := 0) (db := 0) (by rw [hm.get hi, hv.get hi]), hm.get hi] at this
    exact of_decide_eq_true (this j hj)
  · intro q i hi
    unfold leRow
    rw [all_zip (da := 0) (db := 0) (by rw [hm.get hi, hv.get hi]), hm.get hi]
    exact fun j hj => decide_eq_true (q i j hi hj)
def sumsAre (v : Mt) (t : Int) : Bool := (lineSums v).all fun z => decide (z = t)
theorem sumsAre_iff {c : Nat} {v : Mt} (h : Sqr c v) (t : Int) : sumsAre v t = true ↔ EvenC c v t := by
  unfold sumsAre
  rw [List.all_eq_true, ← ev_all h]
  constructor
  · exact fun q z hz => of_decide_eq_true (q z hz)
  · exact fun q z hz => decide_eq_true (q z hz)
theorem all_map_bool (l : List Int) (p : Int → Bool) : dAll (.list (l.map fun z => .bool (p z))) = some (.bool (l.all p)) := by
  unfold dAll lst?
  rw [show (l.map fun z => PyData.bool (p z)) = (l.map p).map .bool by simp]
  simp only [Option.bind_some, bools?_map, Option.map_some, List.all_map]
  rfl
theorem any_zip_bool (r o : Row) (p : Int → Int → Bool) : dAny (.list (List.zipWith (fun a b => .bool (p a b)) r o)) = some (.bool ((List.zipWith p r o).any id)) := by
  unfold dAny lst?
  rw [show (List.zipWith (fun a b => PyData.bool (p a b)) r o) = (List.zipWith p r o).map .bool by rw [List.map_zipWith]]
  simp only [Option.bind_some, bools?_map, Option.map_some]
/-! ### is_raised -/
theorem raised_loop (M V : SV) (s4 s5 s6 : Option SV) (n : Nat) : ∀ (a b : Mt) (s2 s3 : Option SV),
    (leMat a b = true → ∃ s2' s3', forGo (.tp [2, 3]) (sIf (bV (eL (c1 dAny) (aCons (eList (eLc [4, 5] (iZ (aCons (eVar 2) (aCons (eVar 3) aNil))) (.tp [4, 5]) bYes (e2 dGt (eVar 4) (eVar 5)))) aNil))) (sRet (eC (.bool false))) sSkip) (zipD (a.map encR) (b.map encR)) [some M, some V, s2, s3, s4, s5, s6] n = some (.nx [some M, some V, s2', s3', s4, s5, s6], n)) ∧
    (leMat a b = false → forGo (.tp [2, 3]) (sIf (bV (eL (c1 dAny) (aCons (eList (eLc [4, 5] (iZ (aCons (eVar 2) (aCons (eVar 3) aNil))) (.tp [4, 5]) bYes (e2 dGt (eVar 4) (eVar 5)))) aNil))) (sRet (eC (.bool false))) sSkip) (zipD (a.map encR) (b.map encR)) [some M, some V, s2, s3, s4, s5, s6] n = some (.rt (.bool false), n))
  | [], b, s2, s3 => ⟨fun _ => ⟨s2, s3, rfl⟩, fun h => by simp [leMat] at h⟩
  | r :: a, [], s2, s3 => ⟨fun _ => ⟨s2, s3, rfl⟩, fun h => by simp [leMat] at h⟩
  | r :: a, o :: b, s2, s3 => by
    obtain ⟨ih1, ih2⟩ := raised_loop M V s4 s5 s6 n a b (some (.val (encR r))) (some (.val (encR o)))
    have hc : bV (eL (c1 dAny) (aCons (eList (eLc [4, 5] (iZ (aCons (eVar 2) (aCons (eVar 3) aNil))) (.tp [4, 5]) bYes (e2 dGt (eVar 4) (eVar 5)))) aNil)) (frzE [some M, some V, some (.val (encR r)), some (.val (encR o)), s4, s5, s6]) n = some (!leRow r o, n) := by
      refine bV_ok (eL1_ok (eList_ok (eLc_ok (iZ_t (a2_ok rfl rfl)) (lc_zip (fun x y => .bool (decide (y < x))) (fun x y => ?_) r o))) ?_)
      · exact e2_ok rfl rfl rfl
      · rw [any_zip_bool, leRow_gt]
    have hb : bindS (.tp [2, 3]) (.tuple [encR r, encR o]) [some M, some V, s2, s3, s4, s5, s6] = some [some M, some V, some (.val (encR r)), some (.val (encR o)), s4, s5, s6] := rfl
    have hle : leMat (r :: a) (o :: b) = (leRow r o && leMat a b) := rfl
    show (_ → ∃ s2' s3', forGo (.tp [2, 3]) _ (.tuple [encR r, encR o] :: zipD (a.map encR) (b.map encR)) _ n = _) ∧ (_ → forGo (.tp [2, 3]) _ (.tuple [encR r, encR o] :: zipD (a.map encR) (b.map encR)) _ n = _)
    rw [hle]
    cases hl : leRow r o with
    | false =>
      rw [hl] at hc
      refine ⟨fun h => by simp at h, fun _ => forGo_rt hb ?_⟩
      rw [sIf_t hc]
      rfl
    | true =>
      rw [hl] at hc
      have step : (sIf (bV (eL (c1 dAny) (aCons (eList (eLc [4, 5] (iZ (aCons (eVar 2) (aCons (eVar 3) aNil))) (.tp [4, 5]) bYes (e2 dGt (eVar 4) (eVar 5)))) aNil))) (sRet (eC (.bool false))) sSkip) [some M, some V, some (.val (encR r)), some (.val (encR o)), s4, s5, s6] n = some (.nx [some M, some V, some (.val (encR r)), some (.val (encR o)), s4, s5, s6], n) := by
        rw [sIf_f hc]
        rfl
      refine ⟨fun h => ?_, fun h => ?_⟩
      · obtain ⟨t2, t3, e⟩ := ih1 (by simpa using h)
        exact ⟨t2, t3, (forGo_nx hb step).trans e⟩
      · exact (forGo_nx hb step).trans (ih2 (by simpa using h))
theorem check_ok {m : Mt} (h : Mv m) (n : Nat) : m_check_matrix [encM m] n = some (.ok .none, n) := by
  rw [check_matrix_eq _ _ (pl_mat m), isMat_enc h]
  rfl
theorem len_mat (m : Mt) : dLen (encM m) = some (.int (m.length : Int)) := by simp [dLen, encM]
theorem is_raised_no {m : Mt} (h : Mv m) {d : D} (hp : pl d = true) (hd : isSq d (m.length : Int) 0 99 = false) (n : Nat) : m_is_raised [encM m, d] n = some (.ok (.bool false), n) := by
  refine mkF_rt rfl ((sSeq_nx (sCallX_ok (n2 := n) (a1_ok rfl) (check_ok h n))).trans (sSeq_rt ((sIf_t (n1 := n) ?_).trans (sRet_ok rfl))))
  refine bNot_ok (b := false) (bV_ok (call_ok (ds := [d, .int (m.length : Int), .int 0, .int 99]) (aCons_ok rfl (aCons_ok (eL1_ok rfl (len_mat m)) (a2_ok rfl rfl))) ?_))
  rw [is_square_of_eq _ _ _ _ _ hp, hd]
theorem isSq_enc {c : Nat} {v : Mt} (h : Sqr c v) {lo hi : Int} (hr : ∀ r ∈ v, ∀ x ∈ r, lo ≤ x ∧ x ≤ hi) : isSq (encM v) (c : Int) lo hi = true := by
  unfold isSq encM
  simp only [List.length_map, h.len, decide_true, Bool.true_and, List.all_map]
  rw [List.all_eq_true]
  exact fun r hr' => isRw_row (by rw [h.row r hr']) (hr r hr')
theorem is_raised_eq {m v : Mt} (h : Mv m) (hv : Sqr m.length v) (hr : ∀ r ∈ v, ∀ x ∈ r, 0 ≤ x ∧ x ≤ 99) (n : Nat) : m_is_raised [encM m, encM v] n = some (.ok (.bool (leMat m v && sumsAre v (deg m))), n) := by
  have hl : m.length ≤ 1000 := by have := h.le; omega
  have hc : bNot (bV (eCall m_is_square_of (aCons (eVar 1) (aCons (eL (c1 dLen) (aCons (eVar 0) aNil)) (aCons (eC (.int 0)) (aCons (eC (.int 99)) aNil)))))) [some (encM m), some (encM v), none, none, none, none, none] n = some (false, n) := by
    refine bNot_ok (b := true) (bV_ok (call_ok (ds := [encM v, .int (m.length : Int), .int 0, .int 99]) (aCons_ok rfl (aCons_ok (eL1_ok rfl (len_mat m)) (a2_ok rfl rfl))) ?_))
    rw [is_square_of_eq _ _ _ _ _ (pl_mat v), isSq_enc hv hr]
  obtain ⟨l1, l2⟩ := raised_loop (.val (encM m)) (.val (encM v)) none none none n m v none none
  cases hle : leMat m v with
  | false => exact mkF_rt rfl ((sSeq_nx (sCallX_ok (n2 := n) (a1_ok rfl) (check_ok h n))).trans ((sSeq_nx (S1 := [some (.val (encM m)), some (.val (encM v)), none, none, none, none, none]) ((sIf_f hc).trans rfl)).trans (sSeq_rt ((sFor_go (iZ_t (a2_ok rfl rfl))).trans (l2 hle)))))
  | true =>
    obtain ⟨s2, s3, e⟩ := l1 hle
    refine mkF_rt rfl ((sSeq_nx (sCallX_ok (n2 := n) (a1_ok rfl) (check_ok h n))).trans ((sSeq_nx (S1 := [some (.val (encM m)), some (.val (encM v)), none, none, none, none, none]) ((sIf_f hc).trans rfl)).trans ((sSeq_nx ((sFor_go (iZ_t (a2_ok rfl rfl))).trans e)).trans (sRet_ok ?_))))
    refine eL1_ok (eList_ok (eLc_ok (iS_l (call_ok (a1_ok rfl) (line_sums_eq (fun r hr => by rw [hv.len]; exact hv.row r hr) (by rw [hv.len]; exact hl) n))) (lc_map _ (fun z => .bool (decide (z = deg m))) (lineSums v) fun z hz => ?_))) (all_map_bool _ _)
    refine e2_ok rfl (call_ok (a1_ok rfl) (degree_of_eq h.sq h.pos hl n)) (eq_int' z (deg m))

/-! ### the law's own question -/
theorem G_nil (k : Nat) : G (k + 1) (.list []) := G_lst fun x hx => by cases hx
theorem ne_nil_ints (l : List Int) : dNe (.list (l.map .int)) (.list []) = some (.bool (!decide (l = []))) := by
  refine dNe_dec (G_ints l) (G_nil 0) (by decide) ⟨fun h => by rw [h]; rfl, fun h => ?_⟩
  simpa using h
theorem lst_nil : dLst [] = some (.list []) := rfl
theorem fine_loop (M V : SV) (s2 s5 s6 : Option SV) (n : Nat) : ∀ (a b : Mt) (s3 s4 : Option SV),
    (leMat a b = true → ∃ s3' s4', forGo (.tp [3, 4]) (sIf (bV (e2 dNe (eList (eLc [5, 6] (iZ (aCons (eVar 3) (aCons (eVar 4) aNil))) (.tp [5, 6]) (bV (e2 dGt (eVar 5) (eVar 6))) (eVar 5))) (eL dLst aNil))) (sRet (eC (.bool false))) sSkip) (zipD (a.map encR) (b.map encR)) [some M, some V, s2, s3, s4, s5, s6] n = some (.nx [some M, some V, s2, s3', s4', s5, s6], n)) ∧
    (leMat a b = false → forGo (.tp [3, 4]) (sIf (bV (e2 dNe (eList (eLc [5, 6] (iZ (aCons (eVar 3) (aCons (eVar 4) aNil))) (.tp [5, 6]) (bV (e2 dGt (eVar 5) (eVar 6))) (eVar 5))) (eL dLst aNil))) (sRet (eC (.bool false))) sSkip) (zipD (a.map encR) (b.map encR)) [some M, some V, s2, s3, s4, s5, s6] n = some (.rt (.bool false), n))
  | [], b, s2, s3 => ⟨fun _ => ⟨s2, s3, rfl⟩, fun h => by simp [leMat] at h⟩
  | r :: a, [], s2, s3 => ⟨fun _ => ⟨s2, s3, rfl⟩, fun h => by simp [leMat] at h⟩
  | r :: a, o :: b, s3, s4 => by
    obtain ⟨ih1, ih2⟩ := fine_loop M V s2 s5 s6 n a b (some (.val (encR r))) (some (.val (encR o)))
    have hc : bV (e2 dNe (eList (eLc [5, 6] (iZ (aCons (eVar 3) (aCons (eVar 4) aNil))) (.tp [5, 6]) (bV (e2 dGt (eVar 5) (eVar 6))) (eVar 5))) (eL dLst aNil)) (frzE [some M, some V, s2, some (.val (encR r)), some (.val (encR o)), s5, s6]) n = some (!leRow r o, n) := by
      refine bV_ok (e2_ok (eList_ok (eLc_ok (iZ_t (a2_ok rfl rfl)) (lc_zipF (fun x y => decide (y < x)) (fun x y => .int x) (fun x y => ?_) (fun x y => ?_) r o))) (eL_ok rfl lst_nil) ?_)
      · exact bV_ok (e2_ok rfl rfl rfl)
      · rfl
      · rw [show ((List.zip r o).filter fun z => decide (z.2 < z.1)).map (fun z => PyData.int z.1) = (((List.zip r o).filter fun z => decide (z.2 < z.1)).map (fun z => z.1)).map .int by simp, ne_nil_ints, leRow_flt]
    have hb : bindS (.tp [3, 4]) (.tuple [encR r, encR o]) [some M, some V, s2, s3, s4, s5, s6] = some [some M, some V, s2, some (.val (encR r)), some (.val (encR o)), s5, s6] := rfl
    have hle : leMat (r :: a) (o :: b) = (leRow r o && leMat a b) := rfl
    show (_ → ∃ s2' s3', forGo (.tp [3, 4]) _ (.tuple [encR r, encR o] :: zipD (a.map encR) (b.map encR)) _ n = _) ∧ (_ → forGo (.tp [3, 4]) _ (.tuple [encR r, encR o] :: zipD (a.map encR) (b.map encR)) _ n = _)
    rw [hle]
    cases hl : leRow r o with
    | false =>
      rw [hl] at hc
      refine ⟨fun h => by simp at h, fun _ => forGo_rt hb ?_⟩
      rw [sIf_t hc]
      rfl
    | true =>
      rw [hl] at hc
      have step : (sIf (bV (e2 dNe (eList (eLc [5, 6] (iZ (aCons (eVar 3) (aCons (eVar 4) aNil))) (.tp [5, 6]) (bV (e2 dGt (eVar 5) (eVar 6))) (eVar 5))) (eL dLst aNil))) (sRet (eC (.bool false))) sSkip) [some M, some V, s2, some (.val (encR r)), some (.val (encR o)), s5, s6] n = some (.nx [some M, some V, s2, some (.val (encR r)), some (.val (encR o)), s5, s6], n) := by
        rw [sIf_f hc]
        rfl
      refine ⟨fun h => ?_, fun h => ?_⟩
      · obtain ⟨t2, t3, e⟩ := ih1 (by simpa using h)
        exact ⟨t2, t3, (forGo_nx hb step).trans e⟩
      · exact (forGo_nx hb step).trans (ih2 (by simpa using h))
theorem filter_nil (l : List Int) (t : Int) : decide ((l.filter fun z => !decide (z = t)) = []) = l.all fun z => decide (z = t) := by
  induction l with
  | nil => rfl
  | cons a r ih =>
    rw [List.filter_cons, List.all_cons, ← ih]
    by_cases h : a = t <;> simp [h]
theorem law_fine_eq {m v : Mt} (h : Mv m) (hv : Sqr m.length v) (n : Nat) : m__law_fine [encM m, encM v] n = some (.ok (.bool (leMat m v && sumsAre v (deg m))), n) := by
  have hl : m.length ≤ 1000 := by have := h.le; omega
  have tv := line_totals_eq (m := v) (fun r hr => by rw [hv.len]; exact hv.row r hr) (by rw [hv.len]; exact hl) n
  have tm := line_totals_eq (m := m) h.sq hl n
  have hc : bV (e2 dNe (eList (eLc [2] (iS (eCall m__law_line_totals (aCons (eVar 1) aNil))) (.nm 2) (bV (e2 dNe (eVar 2) (eL (c1 dMax) (aCons (eCall m__law_line_totals (aCons (eVar 0) aNil)) aNil)))) (eVar 2))) (eL dLst aNil)) [some (encM m), some (encM v), none, none, none, none, none] n = some (!sumsAre v (deg m), n) := by
    refine bV_ok (e2_ok (eList_ok (eLc_ok (iS_l (call_ok (a1_ok rfl) tv)) (lc_filter _ (fun z => !decide (z = deg m)) (fun z => .int z) (lineSums v) (fun z _ => ?_) (fun z _ _ => rfl)))) (eL_ok rfl lst_nil) ?_)
    · refine bV_ok (e2_ok rfl (eL1_ok (call_ok (a1_ok rfl) tm) (max_ints (lineSums_ne h.pos))) (ne_int z _))
    · rw [ne_nil_ints, filter_nil]; rfl
  cases hs : sumsAre v (deg m) with
  | false =>
    rw [hs] at hc
    rw [Bool.and_false]
    exact mkF_rt rfl (sSeq_rt ((sIf_t hc).trans (sRet_ok rfl)))
  | true =>
    rw [hs] at hc
    rw [Bool.and_true]
    obtain ⟨l1, l2⟩ := fine_loop (.val (encM m)) (.val (encM v)) none none none n m v none none
    cases hle : leMat m v with
    | false => exact mkF_rt rfl ((sSeq_nx (S1 := [some (.val (encM m)), some (.val (encM v)), none, none, none, none, none]) ((sIf_f hc).trans rfl)).trans (sSeq_rt ((sFor_go (iZ_t (a2_ok rfl rfl))).trans (l2 hle))))
    | true =>
      obtain ⟨s2, s3, e⟩ := l1 hle
      exact mkF_rt rfl ((sSeq_nx (S1 := [some (.val (encM m)), some (.val (encM v)), none, none, none, none, none]) ((sIf_f hc).trans rfl)).trans ((sSeq_nx ((sFor_go (iZ_t (a2_ok rfl rfl))).trans e)).trans (sRet_ok rfl)))
theorem same_truth_eq' (a b : Bool) (n : Nat) : m__law_same_truth [.bool a, .bool b] n = some (.ok (.bool (a == b)), n) := by
  cases a <;> cases b <;> rfl


/-! ### slices, step by step -/
theorem eSl_ok {F : D → Option Int → Option Int → Option D} {f : FE} {lo hi : Fe (Option Int)} {env : En} {n n1 n2 n3 : Nat} {x d : D} {a b : Option Int} (h : f env n = some (x, n1)) (h2 : lo env n1 = some (a, n2)) (h3 : hi env n2 = some (b, n3)) (hF : F x a b = some d) : eSl F f lo hi env n = some (d, n3) := by
  unfold eSl; rw [h]; simp only [h2, h3, hF, Option.map_some]
theorem sl_tl (ds : List D) : dSl (.tuple ds) (some 1) none = some (.tuple (ds.drop 1)) := by simp [dSl, cut_drop1]
theorem sl_hd (ds : List D) : dSl (.tuple ds) none (some 1) = some (.tuple (ds.take 1)) := by simp [dSl, cut_take1]
theorem aLim_ok {f : Fe (List D)} {env : En} {n n1 : Nat} {ds : List D} (h : f env n = some (ds, n1)) (hl : ds.length ≤ lim) : aLim f env n = some (ds, n1) := by unfold aLim; rw [h]; simp only [hl, if_true]
theorem sAppH_ok {i : Nat} {f : FE} {S : Es} {n n1 : Nat} {ds : List D} {d : D} (hS : S[i]? = some (some (.own ds))) (h : f (hidE S) n = some (d, n1)) (hl : ds.length < lim) : sAppH i f S n = some (.nx (S.set i (some (.own (ds ++ [d])))), n1) := by
  unfold sAppH; rw [hS]; simp only [h, decide_eq_true hl, if_true]
theorem sUnp_ok {is : List Nat} {f : FE} {S : Es} {n n1 : Nat} {ds : List D} (h : f (frzE S) n = some (.list ds, n1)) (hl : lfL ds = true) (hn : ds.length = is.length) : sUnp is f S n = some (.nx (setAllV S is ds), n1) := by
  unfold sUnp; rw [h]; simp only [hl, decide_eq_true hn, Bool.and_self, if_true]
theorem isSq_bad {rows : List D} {d : D} {c lo hi : Int} (hd : d ∈ rows) (h : isRw c lo hi d = false) : isSq (.tuple rows) c lo hi = false := by
  have : rows.all (isRw c lo hi) = false := by
    rw [Bool.eq_false_iff]
    intro z
    rw [List.all_eq_true.mp z d hd] at h
    cases h
  simp [isSq, this]
theorem isSq_len {rows : List D} {c lo hi : Int} (h : (rows.length : Int) ≠ c) : isSq (.tuple rows) c lo hi = false := by simp [isSq, h]
/-! ### the raised matrix's entries -/
theorem at_rng {c : Nat} {m : Mt} (h : Sqr c m) {lo hi : Int} (q : ∀ i j, i < c → j < c → lo ≤ at2 m i j ∧ at2 m i j ≤ hi) : ∀ r ∈ m, ∀ x ∈ r, lo ≤ x ∧ x ≤ hi := fun r hr x hx => by
  obtain ⟨i, hi', rfl⟩ := mem_get (d := []) hr
  obtain ⟨j, hj', rfl⟩ := mem_get (d := (0 : Int)) hx
  rw [h.len] at hi'
  rw [h.get hi'] at hj'
  exact q i j hi' hj'
theorem rng_at {c : Nat} {m : Mt} (h : Sqr c m) {lo hi : Int} (q : ∀ r ∈ m, ∀ x ∈ r, lo ≤ x ∧ x ≤ hi) {i j : Nat} (hi' : i < c) (hj : j < c) : lo ≤ at2 m i j ∧ at2 m i j ≤ hi :=
  q _ (getD_mem' (by rw [h.len]; exact hi')) _ (getD_mem' (by rw [h.get hi']; exact hj))
theorem deg_le {m : Mt} (h : Mv m) : deg m ≤ 45 := by
  have hs := h.sqr
  have hc : m.length ≤ 5 := h.le
  have b : ∀ i j, i < m.length → j < m.length → at2 m i j ≤ 9 := fun i j hi hj => (rng_at hs h.rng hi hj).2
  have k : (m.length : Int) * 9 ≤ 45 := by omega
  rcases (mem_lineSums hs).1 (maxL_mem (lineSums_ne h.pos)) with ⟨i, hi, e⟩ | ⟨j, hj, e⟩
  · have := sumN_le (n := m.length) (f := fun j => at2 m i j) (g := fun _ => 9) fun j hj => b i j hi hj
    rw [sumN_const] at this
    unfold deg; rw [e]; unfold rowS; omega
  · have := sumN_le (n := m.length) (f := fun i => at2 m i j) (g := fun _ => 9) fun i hi => b i j hi hj
    rw [sumN_const] at this
    unfold deg; rw [e]; unfold colS; omega
theorem lift_rng {m : Mt} (h : Mv m) : ∀ i j, i < m.length → j < m.length → 0 ≤ at2 (lift m) i j ∧ at2 (lift m) i j ≤ 45 := by
  obtain ⟨gs, ge, ev, _⟩ := lift_spec h.sqr h.pos
  have nn : ∀ i j, i < m.length → j < m.length → 0 ≤ at2 (lift m) i j := fun i j hi hj => by
    have := (rng_at h.sqr h.rng hi hj).1
    have := ge i j
    omega
  intro i j hi hj
  refine ⟨nn i j hi hj, ?_⟩
  have := sumN_part (f := fun j => at2 (lift m) i j) (fun j hj => nn i j hi hj) j hj
  have e := ev.1 i hi
  unfold rowS at e
  have := deg_le h
  omega
theorem four_of {r : Row} (h : r.length = 4) : ∃ a b c d, r = [a, b, c, d] := by
  match r, h with
  | [a, b, c, d], _ => exact ⟨a, b, c, d, rfl⟩
/-! ### the odd values -/
def odds7 (g : Mt) : List D := [.none, .list (g.map encR), .tuple (g.map encR ++ (g.map encR).take 1), .tuple ((g.map encR).drop 1), .tuple (.list ((g.getD 0 []).map .int) :: (g.map encR).drop 1), .tuple (.tuple ((g.getD 0 []).map .int ++ [.int 0]) :: (g.map encR).drop 1)]
theorem cons_tl {g : Mt} (h : 1 ≤ g.length) : g = g.getD 0 [] :: g.drop 1 := by
  cases g with
  | nil => simp at h
  | cons a b => rfl
theorem odds7_bad {c : Nat} {g : Mt} (hg : Sqr c g) (hc : 1 ≤ c) : ∀ d ∈ odds7 g, isSq d (c : Int) 0 99 = false := by
  have hl := hg.len
  intro d hd
  unfold odds7 at hd
  simp only [List.mem_cons, List.not_mem_nil, or_false] at hd
  rcases hd with rfl | rfl | rfl | rfl | rfl | rfl
  · rfl
  · rfl
  · refine isSq_len ?_
    rw [List.length_append, List.length_take, List.length_map, hl]
    omega
  · refine isSq_len ?_
    rw [List.length_drop, List.length_map, hl]
    omega
  · exact isSq_bad List.mem_cons_self rfl
  · refine isSq_bad List.mem_cons_self (isRw_len ?_)
    rw [List.length_append, List.length_map, hg.get (by omega)]
    simp
    omega
theorem plL_rows (m : Mt) : plL (m.map encR) = true := plL_all fun d hd => by obtain ⟨r, _, rfl⟩ := List.mem_map.mp hd; exact pl_row r
theorem plL_ints (r : Row) : plL (r.map .int) = true := plL_all fun d hd => by obtain ⟨x, _, rfl⟩ := List.mem_map.mp hd; rfl
theorem odds7_pl (g : Mt) : ∀ d ∈ odds7 g, pl d = true := by
  have h := plL_rows g
  have hd : plL ((g.map encR).drop 1) = true := plL_all fun d hd => plL_mem h d (List.mem_of_mem_drop hd)
  intro d hd'
  unfold odds7 at hd'
  simp only [List.mem_cons, List.not_mem_nil, or_false] at hd'
  rcases hd' with rfl | rfl | rfl | rfl | rfl | rfl
  · rfl
  · rw [pl]; exact h
  · rw [pl]; exact plL_app h (plL_all fun d hd => plL_mem h d (List.mem_of_mem_take hd))
  · rw [pl]; exact hd
  · rw [pl, plL, hd, pl, plL_ints]; rfl
  · rw [pl, plL, hd, pl, plL_app (plL_ints _) rfl]; rfl
theorem law_odds {m : Mt} (h : Mv m) (n : Nat) (a0 a1 a5 : D) (rest : List (List D)) (s7 s8 s9 s10 s11 s12 s13 s14 s15 s16 : Option SV) :
    t_law10 [some (.val a0), some (.val a1), some (.val (encM m)), some (.val (.int (m.length : Int))), some (.val (encM (lift m))), some (.val a5), some (.own2 rest), s7, s8, s9, s10, s11, s12, s13, s14, s15, s16, none, none] n = some (.rt (.bool true), n) := by
  obtain ⟨gs, ge, ev, _⟩ := lift_spec h.sqr h.pos
  have rng := lift_rng h
  generalize lift m = g at *
  have hl := gs.len
  have hc5 := h.le
  have hc1 := h.pos
  have hix0 : dIx (encM g) (.int 0) = some (encR (g.getD 0 [])) := ix_m gs (i := 0) (by omega)
  have hg0 : 0 < (g.getD 0 []).length := by rw [gs.get (by omega)]; omega
  have hix00 : dIx (encR (g.getD 0 [])) (.int 0) = some (.int (at2 g 0 0)) := ix_row (j := 0) hg0
  have e1 : upd2 g 0 0 1 = ((at2 g 0 0 + 1) :: (g.getD 0 []).drop 1) :: g.drop 1 := by
    unfold upd2 addRow at2
    cases g with
    | nil => simp at hl; omega
    | cons a b =>
      cases a with
      | nil => simp at hg0
      | cons x y => rfl
  have lastv : encM (upd2 g 0 0 1) = .tuple (.tuple (.int (at2 g 0 0 + 1) :: ((g.getD 0 []).map .int).drop 1) :: (g.map encR).drop 1) := by
    rw [e1]
    simp [encM, encR, List.map_drop]
  have hlast : m_is_raised [encM m, encM (upd2 g 0 0 1)] n = some (.ok (.bool false), n) := by
    rw [is_raised_eq h (upd2_sqr gs (by omega)) (at_rng (upd2_sqr gs (by omega)) fun i j hi hj => ?_)]
    · have : sumsAre (upd2 g 0 0 1) (deg m) = false := by
        rw [Bool.eq_false_iff]
        intro z
        have z := ((sumsAre_iff (upd2_sqr gs (by omega)) _).1 z).1 0 (by omega)
        rw [upd2_row gs (by omega) (by omega), ev.1 0 (by omega)] at z
        simp at z
        omega
      rw [this, Bool.and_false]
    · rw [upd2_at gs (by omega) (by omega)]
      have := rng i j hi hj
      split <;> omega
  have lk : ∀ k : Nat, k ≤ 10 → k ≤ lim := fun k hk => by rw [lim_val]; omega
  refine (sSeq_nx (sOwnH_ok (d := odds7 g) (n1 := n) ?_)).trans ((sSeq_nx (sAppH_ok (ds := odds7 g) (d := encM (upd2 g 0 0 1)) (n1 := n) rfl ?_ (by show 6 < lim; rw [lim_val]; omega))).trans (sRet_ok ?_))
  · have hsl := sl_tl (g.map encR)
    have htl : (eSl dSl (eVar 4) (oSome (eC (.int 1))) oNone) (hidE [some (.val a0), some (.val a1), some (.val (encM m)), some (.val (.int (m.length : Int))), some (.val (encM g)), some (.val a5), some (.own2 rest), s7, s8, s9, s10, s11, s12, s13, s14, s15, s16, none, none]) n = some (.tuple ((g.map encR).drop 1), n) := eSl_ok rfl rfl rfl hsl
    refine aLim_ok (aCons_ok rfl (aCons_ok (eL1_ok rfl rfl) (aCons_ok (e2_ok rfl (eSl_ok rfl rfl rfl (sl_hd _)) (add_tup ?_)) (aCons_ok htl (aCons_ok (e2_ok (eL_ok (a1_ok (eL1_ok (e2_ok rfl rfl hix0) rfl)) rfl) htl (add_tup ?_)) (a1_ok (e2_ok (eL_ok (a1_ok (e2_ok (e2_ok rfl rfl hix0) (eL_ok rfl rfl) (add_tup ?_))) rfl) htl (add_tup ?_)))))))) (lk 6 (by omega))
    · rw [List.length_take, List.length_map, lim_val]; omega
    · rw [List.length_drop, List.length_map, lim_val]; simp; omega
    · rw [List.length_map, gs.get (by omega), lim_val]; simp; omega
    · rw [List.length_drop, List.length_map, lim_val]; simp; omega
  · rw [lastv]
    refine e2_ok (eL_ok (a1_ok (e2_ok (eL_ok (a1_ok (e2_ok (e2_ok (e2_ok rfl rfl hix0) rfl hix00) rfl rfl)) rfl) (eSl_ok (e2_ok rfl rfl hix0) rfl rfl (sl_tl _)) (add_tup ?_))) rfl) (eSl_ok rfl rfl rfl (sl_tl (g.map encR))) (add_tup ?_)
    · rw [List.length_drop, List.length_map, gs.get (by omega), lim_val]; simp; omega
    · rw [List.length_drop, List.length_map, lim_val]; simp; omega
  · refine e2_ok (x := .list (List.replicate 7 (.bool false))) (y := .list (List.replicate 7 (.bool false))) (eList_ok (eLc_ok (iS_l rfl) ((lc_mapD (fun _ => .bool false) (odds7 g ++ [encM (upd2 g 0 0 1)]) fun d hd => ?_).trans rfl))) (e2_ok rfl (eL1_ok (x := .list (odds7 g ++ [encM (upd2 g 0 0 1)])) rfl rfl) ?_) rfl
    · rcases List.mem_append.mp hd with hd | hd
      · exact call_ok (a2_ok rfl rfl) (is_raised_no h (odds7_pl g d hd) (by rw [← hl]; have := odds7_bad gs h.pos d hd; rw [hl]; exact this) n)
      · rw [List.mem_singleton.mp hd]
        exact call_ok (a2_ok rfl rfl) hlast
    · show dMul (.list [.bool false]) (.int 7) = _
      simp [dMul, lim_val]
/-! ### the swap -/
theorem upd2_eq {m : Mt} {i j : Nat} {w : Int} : m.set i ((m.getD i []).set j ((fun a b => a + b) ((m.getD i []).getD j 0) w)) = upd2 m i j w := rfl
theorem sAdd2_ok {r i j : Nat} {fi fj fe : FE} {S : Es} {n n1 n2 n3 : Nat} {m : Mt} {w : Int} (hS : S[r]? = some (some (.own2 (m.map rowD)))) (hi : fi (frzE S) n = some (.int (i : Int), n1)) (hj : fj (frzE S) n1 = some (.int (j : Int), n2)) (he : fe (frzE S) n2 = some (.int w, n3)) (il : i < m.length) (jl : j < (m.getD i []).length) :
    sAug2 r fi fj fe (fun i j => i + j) S n = some (.nx (S.set r (some (.own2 ((upd2 m i j w).map rowD)))), n3) := sAug2_ok hS hi hj he il jl
def swapM (g : Mt) (i j k l : Nat) : Mt := upd2 (upd2 (upd2 (upd2 g i j (-1)) k l (-1)) i l 1) k j 1
theorem swap_step {c : Nat} {g : Mt} (gs : Sqr c g) {a b : Nat} (w : Int) (ha : a < c) (hb : b < c) (n : Nat) (rest : List D) (a0 a1 a2 a3 a4 a5 s7 s8 s9 s10 s11 s12 s13 s14 s15 s16 s17 s18 : Option SV) :
    forGo (.tp [13, 14, 15]) (sAug2 6 (eVar 13) (eVar 14) (eVar 15) (fun i j => i + j)) (.tuple [.int (a : Int), .int (b : Int), .int w] :: rest) [a0, a1, a2, a3, a4, a5, some (.own2 (g.map rowD)), s7, s8, s9, s10, s11, s12, s13, s14, s15, s16, s17, s18] n
    = forGo (.tp [13, 14, 15]) (sAug2 6 (eVar 13) (eVar 14) (eVar 15) (fun i j => i + j)) rest [a0, a1, a2, a3, a4, a5, some (.own2 ((upd2 g a b w).map rowD)), s7, s8, s9, s10, s11, s12, some (.val (.int (a : Int))), some (.val (.int (b : Int))), some (.val (.int w)), s16, s17, s18] n :=
  forGo_nx (S' := [a0, a1, a2, a3, a4, a5, some (.own2 (g.map rowD)), s7, s8, s9, s10, s11, s12, some (.val (.int (a : Int))), some (.val (.int (b : Int))), some (.val (.int w)), s16, s17, s18]) rfl (sAdd2_ok (m := g) (i := a) (j := b) (w := w) rfl rfl rfl rfl (by rw [gs.len]; exact ha) (by rw [gs.get ha]; exact hb))
theorem swap_loop {c : Nat} {g : Mt} (gs : Sqr c g) {i j k l : Nat} (hi : i < c) (hj : j < c) (hk : k < c) (hl : l < c) (n : Nat) (a0 a1 a2 a3 a4 a5 s7 s8 s9 s10 s11 s12 s13 s14 s15 s16 s17 s18 : Option SV) :
    forGo (.tp [13, 14, 15]) (sAug2 6 (eVar 13) (eVar 14) (eVar 15) (fun i j => i + j)) [.tuple [.int (i : Int), .int (j : Int), .int (-1)], .tuple [.int (k : Int), .int (l : Int), .int (-1)], .tuple [.int (i : Int), .int (l : Int), .int 1], .tuple [.int (k : Int), .int (j : Int), .int 1]]
      [a0, a1, a2, a3, a4, a5, some (.own2 (g.map rowD)), s7, s8, s9, s10, s11, s12, s13, s14, s15, s16, s17, s18] n
    = some (.nx [a0, a1, a2, a3, a4, a5, some (.own2 ((swapM g i j k l).map rowD)), s7, s8, s9, s10, s11, s12, some (.val (.int (k : Int))), some (.val (.int (j : Int))), some (.val (.int 1)), s16, s17, s18], n) := by
  have g1 : Sqr c (upd2 g i j (-1)) := upd2_sqr gs hi
  have g2 : Sqr c (upd2 (upd2 g i j (-1)) k l (-1)) := upd2_sqr g1 hk
  have g3 : Sqr c (upd2 (upd2 (upd2 g i j (-1)) k l (-1)) i l 1) := upd2_sqr g2 hi
  rw [swap_step gs (-1) hi hj, swap_step g1 (-1) hk hl, swap_step g2 1 hi hl, swap_step g3 1 hk hj]
  rfl
theorem swap_rng {m : Mt} (h : Mv m) {i j k l : Nat} (hi : i < m.length) (hj : j < m.length) (hk : k < m.length) (hl : l < m.length) (h1 : i ≠ k) (p1 : 0 < at2 (lift m) i j) (p2 : 0 < at2 (lift m) k l) : Sqr m.length (swapM (lift m) i j k l) ∧ ∀ a b, a < m.length → b < m.length → 0 ≤ at2 (swapM (lift m) i j k l) a b ∧ at2 (swapM (lift m) i j k l) a b ≤ 99 := by
  obtain ⟨gs, _⟩ := lift_spec h.sqr h.pos
  have rng := lift_rng h
  generalize lift m = g at *
  have g1 : Sqr m.length (upd2 g i j (-1)) := upd2_sqr gs hi
  have g2 : Sqr m.length (upd2 (upd2 g i j (-1)) k l (-1)) := upd2_sqr g1 hk
  have g3 : Sqr m.length (upd2 (upd2 (upd2 g i j (-1)) k l (-1)) i l 1) := upd2_sqr g2 hi
  refine ⟨upd2_sqr g3 hk, fun a b ha hb => ?_⟩
  unfold swapM
  rw [upd2_at g3 hk hj, upd2_at g2 hi hl, upd2_at g1 hk hl, upd2_at gs hi hj]
  have := rng a b ha hb
  by_cases c1 : a = i ∧ b = j
  · obtain ⟨rfl, rfl⟩ := c1
    rw [if_pos ⟨rfl, rfl⟩, if_neg (fun z => h1 z.1)]
    split <;> split <;> omega
  · rw [if_neg c1]
    by_cases c2 : a = k ∧ b = l
    · obtain ⟨rfl, rfl⟩ := c2
      rw [if_pos ⟨rfl, rfl⟩]
      split <;> split <;> omega
    · rw [if_neg c2]
      split <;> split <;> omega
theorem ix2 {c : Nat} {g : Mt} (gs : Sqr c g) {i j : Nat} (hi : i < c) (hj : j < c) {f a b : FE} {env : En} {n : Nat} (hf : f env n = some (.list ((g.map rowD).map .list), n)) (ha : a env n = some (.int (i : Int), n)) (hb : b env n = some (.int (j : Int), n)) : e2 dIx (e2 dIx f a) b env n = some (.int (at2 g i j), n) :=
  e2_ok (e2_ok hf ha (ix_ml gs hi)) hb (ix_int (by rw [gs.get hi]; exact hj))
theorem law_swap {m : Mt} (h : Mv m) (n : Nat) (a0 a1 a5 : D) {i j k l : Nat} (hi : i < m.length) (hj : j < m.length) (hk : k < m.length) (hl : l < m.length) (s12 : Option SV) :
    t_law9 [some (.val a0), some (.val a1), some (.val (encM m)), some (.val (.int (m.length : Int))), some (.val (encM (lift m))), some (.val a5), some (.own2 ((lift m).map rowD)), none, some (.val (.int (i : Int))), some (.val (.int (j : Int))), some (.val (.int (k : Int))), some (.val (.int (l : Int))), s12, none, none, none, none, none, none] n = some (.rt (.bool true), n) := by
  obtain ⟨gs, _⟩ := lift_spec h.sqr h.pos
  have hcond : (bAnd (bV (e2 dNe (eVar 8) (eVar 10))) (bAnd (bV (e2 dNe (eVar 9) (eVar 11))) (bAnd (bV (e2 dGt (e2 dIx (e2 dIx (eVar 6) (eVar 8)) (eVar 9)) (eC (.int 0)))) (bV (e2 dGt (e2 dIx (e2 dIx (eVar 6) (eVar 10)) (eVar 11)) (eC (.int 0))))))) (frzE [some (.val a0), some (.val a1), some (.val (encM m)), some (.val (.int (m.length : Int))), some (.val (encM (lift m))), some (.val a5), some (.own2 ((lift m).map rowD)), none, some (.val (.int (i : Int))), some (.val (.int (j : Int))), some (.val (.int (k : Int))), some (.val (.int (l : Int))), s12, none, none, none, none, none, none]) n
      = some ((!decide ((i : Int) = k)) && ((!decide ((j : Int) = l)) && (decide (0 < at2 (lift m) i j) && decide (0 < at2 (lift m) k l))), n) := by
    refine bAnd_ok (bV_ok (e2_ok rfl rfl (ne_int _ _))) fun _ => bAnd_ok (bV_ok (e2_ok rfl rfl (ne_int _ _))) fun _ => bAnd_ok (bV_ok (e2_ok (ix2 gs hi hj rfl rfl rfl) rfl rfl)) fun _ => bV_ok (e2_ok (ix2 gs hk hl rfl rfl rfl) rfl rfl)
  by_cases hb : ((!decide ((i : Int) = k)) && ((!decide ((j : Int) = l)) && (decide (0 < at2 (lift m) i j) && decide (0 < at2 (lift m) k l)))) = true
  · rw [hb] at hcond
    simp only [Bool.and_eq_true, Bool.not_eq_true', decide_eq_true_eq, decide_eq_false_iff_not] at hb
    obtain ⟨b1, b2, b3, b4⟩ := hb
    have e := swap_loop gs hi hj hk hl n (some (.val a0)) (some (.val a1)) (some (.val (encM m))) (some (.val (.int (m.length : Int)))) (some (.val (encM (lift m)))) (some (.val a5)) none (some (.val (.int (i : Int)))) (some (.val (.int (j : Int)))) (some (.val (.int (k : Int)))) (some (.val (.int (l : Int)))) s12 none none none none none none
    obtain ⟨vs, vr⟩ := swap_rng h hi hj hk hl (fun z => b1 (by rw [z])) b3 b4
    refine (sSeq_nx ((sIf_t hcond).trans ((sSeq_nx ((sFor_go (items := [.tuple [.int (i : Int), .int (j : Int), .int (-1)], .tuple [.int (k : Int), .int (l : Int), .int (-1)], .tuple [.int (i : Int), .int (l : Int), .int 1], .tuple [.int (k : Int), .int (j : Int), .int 1]]) (n1 := n) rfl).trans e)).trans ((sSeq_nx (sSet_ok (d := encM (swapM (lift m) i j k l)) (n1 := n) ?_ (lf_mat _))).trans ((sIf_f (n1 := n) ?_).trans rfl))))).trans (law_odds h n a0 a1 a5 _ _ _ _ _ _ _ _ _ _ _)
    · refine eL1_ok (x := .list ((swapM (lift m) i j k l).map encR)) (eList_ok (eLc_ok (items := (swapM (lift m) i j k l).map fun r => .list (rowD r)) (n1 := n) (iS_l ?_) ((tups_ok _).resolve_right (by show ¬ (19 : Nat) ≤ 7; omega)))) rfl
      show some (PyData.list (((swapM (lift m) i j k l).map rowD).map .list), n) = _
      rw [List.map_map]; rfl
    · refine bNot_ok (b := true) (bV_ok (call_ok (a2_ok (call_ok (a2_ok rfl rfl) (is_raised_eq h vs (at_rng vs vr) n)) (call_ok (a2_ok rfl rfl) (law_fine_eq h vs n))) ?_))
      rw [same_truth_eq', beq_self_eq_true]
  · rw [Bool.not_eq_true] at hb
    rw [hb] at hcond
    exact (sSeq_nx ((sIf_f hcond).trans rfl)).trans (law_odds h n a0 a1 a5 _ _ _ _ _ _ _ _ _ _ _)
theorem law_rest7 (ns : List Int) (hns : ns.length ≤ 63) {m : Mt} (h : Mv m) (n : Nat) (hn : n + 10 ≤ lim) : ∃ n', t_law2 [some (.val (scrD ns)), some (.val townD), some (.val (encM m)), none, none, none, none, none, none, none, none, none, none, none, none, none, none, none, none] n = some (.rt (.bool true), n') := by
  obtain ⟨gs, ge, ev, same⟩ := lift_spec h.sqr h.pos
  have rng := lift_rng h
  have hl1000 : m.length ≤ 1000 := by have := h.le; omega
  have htot := line_totals_eq h.sq hl1000 n
  have hne := lineSums_ne h.pos
  have hfine : (leMat m (lift m) && sumsAre (lift m) (deg m)) = true := by
    rw [(leMat_iff h.sqr gs).2 fun i j _ _ => ge i j, (sumsAre_iff gs _).2 ev]; rfl
  have hR := is_raised_eq h gs (at_rng gs fun i j hi hj => ⟨(rng i j hi hj).1, by have := (rng i j hi hj).2; omega⟩) n
  have hF := law_fine_eq h gs n
  rw [hfine] at hR hF
  -- the four draws
  have dr := lc_draws (env := wipeE (frzE [some (.val (scrD ns)), some (.val townD), some (.val (encM m)), some (.val (.int (m.length : Int))), some (.val (encM (lift m))), some (.val (.list ((lineSums m).map .int))), some (.own2 ((lift m).map rowD)), none, none, none, none, none, none, none, none, none, none, none, none]) [12]) (i := 12) (fe := eCall m__law_draw (aCons (eVar 0) (aCons (eVar 1) (aCons (eVar 3) aNil)))) (P := isInt 0 ((m.length : Int) - 1)) 1 lim (fun x n hn => by
    obtain ⟨v, hv, v0, v1⟩ := draw_ok ns hns (m.length : Int) (by have := h.pos; omega) n (by omega)
    exact ⟨_, _, call_ok (aCons_ok rfl (a2_ok rfl rfl)) hv, ⟨v, rfl, v0, by omega⟩, Nat.le_refl _⟩) ((List.range 4).map fun i => .int ((0 + i : Nat) : Int)) n (by show n + 1 * 4 ≤ lim; omega)
  obtain ⟨ds, n1, hd, hdl, hdP, hdn⟩ := dr
  obtain ⟨r, rfl, hr⟩ := ints_of hdP
  rw [List.length_map] at hdl
  obtain ⟨vi, vj, vk, vl, rfl⟩ := four_of (r := r) hdl
  have b1 := hr vi (by simp)
  have b2 := hr vj (by simp)
  have b3 := hr vk (by simp)
  have b4 := hr vl (by simp)
  obtain ⟨i, rfl⟩ := Int.eq_ofNat_of_zero_le b1.1
  obtain ⟨j, rfl⟩ := Int.eq_ofNat_of_zero_le b2.1
  obtain ⟨k, rfl⟩ := Int.eq_ofNat_of_zero_le b3.1
  obtain ⟨l, rfl⟩ := Int.eq_ofNat_of_zero_le b4.1
  refine ⟨n1, (sSeq_nx (sSet_ok (eL1_ok rfl (len_mat m)) rfl)).trans ?_⟩
  refine (sSeq_nx (sSet_ok (call_ok (a1_ok rfl) (raised_eq h n)) (lf_mat _))).trans ?_
  refine (sSeq_nx ((sIf_f (n1 := n) ?_).trans rfl)).trans ?_
  rotate_left
  refine (sSeq_nx (sSetH_ok (call_ok (a1_ok rfl) htot))).trans ?_
  refine (sSeq_nx ((sIf_f (n1 := n) ?_).trans rfl)).trans ?_
  rotate_left
  refine (sSeq_nx (sOwn2_ok (eLc2_ok (iS_t rfl) (lc2_rows (by show (7 : Nat) < 19; omega) (lift m))))).trans ?_
  refine (sSeq_nx (sUnp_ok (eList_ok (eLc_ok (iR1_ok (c := 4) rfl (by rw [lim_val]; omega)) hd)) (lfL_ints _) rfl)).trans ?_
  exact law_swap h n1 _ _ _ (i := i) (j := j) (k := k) (l := l) (by omega) (by omega) (by omega) (by omega) _
  · exact bOr_f (bNot_ok (b := true) (bV_ok (call_ok (a2_ok rfl rfl) hF))) (bV_ok (e2_ok (call_ok (a2_ok rfl rfl) hR) rfl rfl))
  · cases hE : isEv m with
    | true =>
      have e := same ((ev_iff h.sqr h.pos).1 hE)
      refine bAnd_t (bV_ok (e2_ok (eL1_ok rfl (min_ints hne)) (eL1_ok rfl (max_ints hne)) ((eq_int' _ _).trans ?_))) (bV_ok (e2_ok rfl rfl ?_))
      · exact congrArg (fun b => some (PyData.bool b)) hE
      · show dNe (encM (lift m)) (encM m) = _
        rw [e]
        exact dNe_f (G_mat m) (by decide)
    | false => exact bAnd_f (bV_ok (e2_ok (eL1_ok rfl (min_ints hne)) (eL1_ok rfl (max_ints hne)) ((eq_int' _ _).trans (congrArg (fun b => some (PyData.bool b)) hE))))
theorem law_true (ns : List Int) (hl : ns.length ≤ 63) : ∃ n', b_law (some (.val (scrD ns)) :: some (.val townD) :: List.replicate 17 none) 0 = some (.rt (.bool true), n') := by
  obtain ⟨m, n1, h1, hv, b1, _⟩ := any_matrix_ok ns hl 5 (by decide) (by decide) 0 (by rw [lim_val]; omega)
  obtain ⟨v, hd, v0, v1⟩ := draw_ok ns hl 3 (by decide) n1 (by rw [lim_val]; omega)
  obtain ⟨m2, n2, h2, hv2, _, b2, _⟩ := even_matrix_ok ns hl 5 4 (by decide) (by decide) (by decide) (by decide) (n1 + 1) (by rw [lim_val]; omega)
  have hc : bV (e2 dEq (eCall m__law_draw (aCons (eVar 0) (aCons (eVar 1) (aCons (eC (.int 3)) aNil)))) (eC (.int 0))) (frzE [some (.val (scrD ns)), some (.val townD), some (.val (encM m)), none, none, none, none, none, none, none, none, none, none, none, none, none, none, none, none]) n1 = some (decide (v = 0), n1 + 1) := bV_ok (e2_ok (call_ok (aCons_ok rfl (a2_ok rfl rfl)) hd) rfl (eq_int' v 0))
  by_cases hz : v = 0
  · obtain ⟨n3, e⟩ := law_rest7 ns hl hv2 n2 (by rw [lim_val]; omega)
    rw [decide_eq_true hz] at hc
    exact ⟨n3, (sSeq_nx (sSet_ok (call_ok (aCons_ok rfl (a2_ok rfl rfl)) h1) (lf_mat m))).trans ((sSeq_nx ((sIf_t hc).trans (sSet_ok (call_ok (aCons_ok rfl (aCons_ok rfl (a2_ok rfl rfl))) h2) (lf_mat m2)))).trans e)⟩
  · obtain ⟨n3, e⟩ := law_rest7 ns hl hv (n1 + 1) (by rw [lim_val]; omega)
    rw [decide_eq_false hz] at hc
    exact ⟨n3, (sSeq_nx (sSet_ok (call_ok (aCons_ok rfl (a2_ok rfl rfl)) h1) (lf_mat m))).trans ((sSeq_nx ((sIf_f hc).trans rfl)).trans e)⟩

set_option maxHeartbeats 0
def top (i : Nat) : Stmt := PySem.Challenge.pw_permsplits_k07_whole_raised.main.body.getD i (.Pass ⟨0, 0, 0, 0⟩)
section
variable {P : Program} {w : World} {K : PySem.W.Frag} {mg : Str → Option Value} {base : Heap} {f : Addr} {fd : FuncData}
theorem sc_is_integer : FnScope ["value", "low", "high"] ["value", "low", "high"] (defScope (top 5)) := fnSc
theorem p_is_integer (F : FunD K "is_integer" "is_integer" (defArgs (top 5)) (defBody (top 5)) (defScope (top 5)) [] [] f fd) (Z : Bt mg) : FnOk P w K mg base (L2.CX P w) 1 f fd ["value", "low", "high"] (spX K mg 3 false m_is_integer) :=
  kfn (fb := b_is_integer) F sc_is_integer fun cdv A outer s H E hr tk po =>
  (mss_one (ms_ret (me_and (kisi kit_int Z.isinstance (kvar 0) (ktyN Z.int bb_int)) (me_and (me_not (kisi kit_bool Z.isinstance (kvar 0) (ktyN Z.bool bb_bool))) (me_one (kchain op_le op_le (ok_cmp _) (ok_cmp _) (kvar 1) (kvar 0) (kvar 2)))))))
theorem sc_is_square_of : FnScope ["value", "count", "low", "high", "row", "one"] ["value", "count", "low", "high"] (defScope (top 6)) := fnSc
theorem p_is_square_of (F : FunD K "is_square_of" "is_square_of" (defArgs (top 6)) (defBody (top 6)) (defScope (top 6)) [] [] f fd) (Z : Bt mg) (h_is_integer : Has P w K mg base "is_integer" 1 3 false m_is_integer) : FnOk P w K mg base (L2.CX P w) 2 f fd ["value", "count", "low", "high"] (spX K mg 4 false m_is_square_of) :=
  kfn (fb := b_is_square_of) F sc_is_square_of fun cdv A outer s H E hr tk po =>
  (mss_cons (ms_if (PW.pt (mw_or (mt_not (ktval (kisi kit_tuple Z.isinstance (kvar 0) (ktyN Z.tuple bb_tuple)))) (mw_or1 (ktcmp (op_neD hr.units) (ok_ne _) (kcallB cr_len (ok_len _) Z.len bb_len (kacons (kvar 0) ma_nil)) (kvar 1)))))
  (mss_one (ms_ret me_bl))
  mss_nil)
  (mss_cons (kfor (.nm 4) po (mi_seq (kvar 0)) (kname 4 sc_is_square_of.nd)
  (mss_one (ms_if (PW.pt (mw_or (mt_not (ktval (kisi kit_tuple Z.isinstance (kvar 4) (ktyN Z.tuple bb_tuple)))) (mw_or (ktcmp (op_neD hr.units) (ok_ne _) (kcallB cr_len (ok_len _) Z.len bb_len (kacons (kvar 4) ma_nil)) (kvar 1)) (mw_or1 (mt_not (ktval (kcallB (cr_all rfl) (ok_all _) Z.all bb_all (kacons (MF.me (klc [("one", 5)] sc_is_square_of.nd (mi_seq (kvar 4)) (fun _ _ _ _ _ => (kname 5 sc_is_square_of.nd)) (fun _ _ _ _ _ => mts_nil) (fun _ _ _ _ _ => (kcall h_is_integer mkF_len hr (kacons (kvar 5) (kacons (kvar 2) (kacons (kvar 3) ma_nil))))))) ma_nil))))))))
  (mss_one (ms_ret me_bl))
  mss_nil)))
  (mss_one (ms_ret me_bl))))
theorem sc_is_matrix : FnScope ["value"] ["value"] (defScope (top 7)) := fnSc
theorem p_is_matrix (F : FunD K "is_matrix" "is_matrix" (defArgs (top 7)) (defBody (top 7)) (defScope (top 7)) [] [] f fd) (Z : Bt mg) (h_is_square_of : Has P w K mg base "is_square_of" 2 4 false m_is_square_of) (C_LARGEST : ∃ t, mg "LARGEST" = some (.int 9 t)) : FnOk P w K mg base (L2.CX P w) 3 f fd ["value"] (spX K mg 1 false m_is_matrix) :=
  kfn (fb := b_is_matrix) F sc_is_matrix fun cdv A outer s H E hr tk po =>
  (mss_one (ms_ret (me_and (kisi kit_tuple Z.isinstance (kvar 0) (ktyN Z.tuple bb_tuple)) (me_and (kchain op_le op_le (ok_cmp _) (ok_cmp _) me_int (kcallB cr_len (ok_len _) Z.len bb_len (kacons (kvar 0) ma_nil)) me_int) (me_one (kcall h_is_square_of mkF_len hr (kacons (kvar 0) (kacons (kcallB cr_len (ok_len _) Z.len bb_len (kacons (kvar 0) ma_nil)) (kacons me_int (kacons (kglobI C_LARGEST) ma_nil))))))))))
theorem sc_check_matrix : FnScope ["matrix"] ["matrix"] (defScope (top 8)) := fnSc
theorem p_check_matrix (F : FunD K "check_matrix" "check_matrix" (defArgs (top 8)) (defBody (top 8)) (defScope (top 8)) [] [] f fd) (Z : Bt mg) (h_is_matrix : Has P w K mg base "is_matrix" 3 1 false m_is_matrix) (X_InvalidMatrix : ExF K mg "InvalidMatrix") : FnOk P w K mg base (L2.CX P w) 4 f fd ["matrix"] (spX K mg 1 false m_check_matrix) :=
  kfn (fb := b_check_matrix) F sc_check_matrix fun cdv A outer s H E hr tk po =>
  (mss_one (ms_if (mt_not (ktval (kcall h_is_matrix mkF_len hr (kacons (kvar 0) ma_nil))))
  (mss_one (kraise X_InvalidMatrix tk))
  mss_nil))
theorem sc_line_sums : FnScope ["matrix", "row", "at"] ["matrix"] (defScope (top 9)) := fnSc
theorem p_line_sums (F : FunD K "line_sums" "line_sums" (defArgs (top 9)) (defBody (top 9)) (defScope (top 9)) [] [] f fd) (Z : Bt mg) : FnOk P w K mg base (L2.CX P w) 1 f fd ["matrix"] (spX K mg 1 false m_line_sums) :=
  kfn (fb := b_line_sums) F sc_line_sums fun cdv A outer s H E hr tk po =>
  (mss_one (ms_ret (me_op op_addA (ok_add _) (MF.me (klc [("row", 1)] sc_line_sums.nd (mi_seq (kvar 0)) (fun _ _ _ _ _ => (kname 1 sc_line_sums.nd)) (fun _ _ _ _ _ => mts_nil) (fun _ _ _ _ _ => (kcallB (cr_sumA rfl) (ok_sum _) Z.sum bb_sum (kacons (kvar 1) ma_nil))))) (MF.me (klc [("at", 2)] sc_line_sums.nd (krange1 Z.range (kacons (kcallB cr_len (ok_len _) Z.len bb_len (kacons (kvar 0) ma_nil)) ma_nil)) (fun _ _ _ _ _ => (kname 2 sc_line_sums.nd)) (fun _ _ _ _ _ => mts_nil) (fun _ _ _ _ _ => (kcallB (cr_sumA rfl) (ok_sum _) Z.sum bb_sum (kacons (MF.me (klc [("row", 1)] sc_line_sums.nd (mi_seq (kvar 0)) (fun _ _ _ _ _ => (kname 1 sc_line_sums.nd)) (fun _ _ _ _ _ => mts_nil) (fun _ _ _ _ _ => (kix ix_seq (ok_ix _) (kvar 1) (kvar 2))))) ma_nil))))))))
theorem sc_degree_of : FnScope ["matrix"] ["matrix"] (defScope (top 10)) := fnSc
theorem p_degree_of (F : FunD K "degree_of" "degree_of" (defArgs (top 10)) (defBody (top 10)) (defScope (top 10)) [] [] f fd) (Z : Bt mg) (h_line_sums : Has P w K mg base "line_sums" 1 1 false m_line_sums) : FnOk P w K mg base (L2.CX P w) 2 f fd ["matrix"] (spX K mg 1 false m_degree_of) :=
  kfn (fb := b_degree_of) F sc_degree_of fun cdv A outer s H E hr tk po =>
  (mss_one (ms_ret (kcallB (cr_maxA rfl) (ok_max _) Z.max bb_max (kacons (kcall h_line_sums mkF_len hr (kacons (kvar 0) ma_nil)) ma_nil))))
theorem sc_lifted : FnScope ["matrix", "top", "count", "rows", "row", "i", "j", "room"] ["matrix"] (defScope (top 12)) := fnSc
theorem p_lifted (F : FunD K "lifted" "lifted" (defArgs (top 12)) (defBody (top 12)) (defScope (top 12)) [] [] f fd) (Z : Bt mg) (h_degree_of : Has P w K mg base "degree_of" 2 1 false m_degree_of) : FnOk P w K mg base (L2.CX P w) 3 f fd ["matrix"] (spX K mg 1 false m_lifted) :=
  kfn (fb := b_lifted) F sc_lifted fun cdv A outer s H E hr tk po =>
  (mss_cons (ms_par (kparP 1 2 sc_lifted.nd (kacons (kcall h_degree_of mkF_len hr (kacons (kvar 0) ma_nil)) (kacons (kcallB cr_len (ok_len _) Z.len bb_len (kacons (kvar 0) ma_nil)) ma_nil))) rfl)
  (mss_cons (ms_own2 (ksetLc2 3 [("row", 4)] sc_lifted.nd (mi_seq (kvar 0)) (fun _ _ _ _ _ => (kname 4 sc_lifted.nd)) (fun _ _ _ _ _ => (kflist Z.list (kacons (kvar 4) ma_nil)))))
  (mss_cons (kfor (.nm 5) po (krange1 Z.range (kacons (kvar 2) ma_nil)) (kname 5 sc_lifted.nd)
  (mss_one (kfor (.nm 6) po (krange1 Z.range (kacons (kvar 2) ma_nil)) (kname 6 sc_lifted.nd)
  (mss_cons (kset 7 sc_lifted.nd (kcallB (call_min2 rfl) (ok_min2 _) Z.min bb_min (kacons (me_op op_sub (ok_sub _) (kvar 1) (kcallB (cr_sumA rfl) (ok_sum _) Z.sum bb_sum (kacons (kix ix_seq (ok_ix _) (kvar 3) (kvar 5)) ma_nil))) (kacons (me_op op_sub (ok_sub _) (kvar 1) (kcallB (cr_sumA rfl) (ok_sum _) Z.sum bb_sum (kacons (MF.me (klc [("row", 4)] sc_lifted.nd (mi_seq (kvar 3)) (fun _ _ _ _ _ => (kname 4 sc_lifted.nd)) (fun _ _ _ _ _ => mts_nil) (fun _ _ _ _ _ => (kix ix_seq (ok_ix _) (kvar 4) (kvar 6))))) ma_nil))) ma_nil))))
  (mss_one (kaug2 3 (kpv 3) (kvar 5) (kvar 6) (kvar 7) ip_add))))))
  (mss_one (ms_ret (kcallTy call_tuple_of (ok_tuple _) Z.tuple bb_tuple (kacons (MF.me (klc [("row", 4)] sc_lifted.nd (mi_seq (kvar 3)) (fun _ _ _ _ _ => (kname 4 sc_lifted.nd)) (fun _ _ _ _ _ => mts_nil) (fun _ _ _ _ _ => (kcallTy call_tuple_of (ok_tuple _) Z.tuple bb_tuple (kacons (kvar 4) ma_nil))))) ma_nil)))))))
theorem sc_raised : FnScope ["matrix"] ["matrix"] (defScope (top 13)) := fnSc
theorem p_raised (F : FunD K "raised" "raised" (defArgs (top 13)) (defBody (top 13)) (defScope (top 13)) [] [] f fd) (Z : Bt mg) (h_check_matrix : Has P w K mg base "check_matrix" 4 1 false m_check_matrix) (h_lifted : Has P w K mg base "lifted" 3 1 false m_lifted) : FnOk P w K mg base (L2.CX P w) 5 f fd ["matrix"] (spX K mg 1 false m_raised) :=
  kfn (fb := b_raised) F sc_raised fun cdv A outer s H E hr tk po =>
  (mss_cons (kcallS h_check_matrix mkF_len hr tk (kacons (kvar 0) ma_nil))
  (mss_one (ms_ret (kcall h_lifted mkF_len hr (kacons (kvar 0) ma_nil)))))
theorem sc_is_raised : FnScope ["matrix", "value", "row", "other", "entry", "more", "total"] ["matrix", "value"] (defScope (top 14)) := fnSc
theorem p_is_raised (F : FunD K "is_raised" "is_raised" (defArgs (top 14)) (defBody (top 14)) (defScope (top 14)) [] [] f fd) (Z : Bt mg) (h_check_matrix : Has P w K mg base "check_matrix" 4 1 false m_check_matrix) (h_is_square_of : Has P w K mg base "is_square_of" 2 4 false m_is_square_of) (h_degree_of : Has P w K mg base "degree_of" 2 1 false m_degree_of) (h_line_sums : Has P w K mg base "line_sums" 1 1 false m_line_sums) : FnOk P w K mg base (L2.CX P w) 5 f fd ["matrix", "value"] (spX K mg 2 false m_is_raised) :=
  kfn (fb := b_is_raised) F sc_is_raised fun cdv A outer s H E hr tk po =>
  (mss_cons (kcallS h_check_matrix mkF_len hr tk (kacons (kvar 0) ma_nil))
  (mss_cons (ms_if (mt_not (ktval (kcall h_is_square_of mkF_len hr (kacons (kvar 1) (kacons (kcallB cr_len (ok_len _) Z.len bb_len (kacons (kvar 0) ma_nil)) (kacons me_int (kacons me_int ma_nil)))))))
  (mss_one (ms_ret me_bl))
  mss_nil)
  (mss_cons (kfor (.tp [2, 3]) po (kzip Z.zip (kacons (kvar 0) (kacons (kvar 1) ma_nil))) (ktup2 2 3 sc_is_raised.nd)
  (mss_one (ms_if (ktval (kcallB (cr_any rfl) (ok_any _) Z.any bb_any (kacons (MF.me (klc [("entry", 4), ("more", 5)] sc_is_raised.nd (kzip Z.zip (kacons (kvar 2) (kacons (kvar 3) ma_nil))) (fun _ _ _ _ _ => (ktup2 4 5 sc_is_raised.nd)) (fun _ _ _ _ _ => mts_nil) (fun _ _ _ _ _ => (kcmp op_gt (ok_cmp _) (kvar 4) (kvar 5))))) ma_nil)))
  (mss_one (ms_ret me_bl))
  mss_nil)))
  (mss_one (ms_ret (kcallB (cr_all rfl) (ok_all _) Z.all bb_all (kacons (MF.me (klc [("total", 6)] sc_is_raised.nd (mi_seq (kcall h_line_sums mkF_len hr (kacons (kvar 1) ma_nil))) (fun _ _ _ _ _ => (kname 6 sc_is_raised.nd)) (fun _ _ _ _ _ => mts_nil) (fun _ _ _ _ _ => (kcmp (op_eqD hr.units) (ok_eq _) (kvar 6) (kcall h_degree_of mkF_len hr (kacons (kvar 0) ma_nil)))))) ma_nil)))))))
theorem sc__law_cell_at : FnScope ["script", "k", "spare", "again"] ["script", "k"] (defScope (top 16)) := fnSc
theorem p__law_cell_at (F : FunD K "_law_cell_at" "_law_cell_at" (defArgs (top 16)) (defBody (top 16)) (defScope (top 16)) [] [] f fd) (Z : Bt mg) : FnOk P w K mg base (L2.CX P w) 1 f fd ["script", "k"] (spX K mg 2 false m__law_cell_at) :=
  kfn (fb := b__law_cell_at) F sc__law_cell_at fun cdv A outer s H E hr tk po =>
  (mss_cons (ms_if (ktcmp op_lt (ok_cmp _) (kvar 1) (kcallB cr_len (ok_lenS _) Z.len bb_len (kacons (kvar 0) ma_nil)))
  (mss_one (ms_ret (kix ix_seq (ok_ixS _) (kvar 0) (kvar 1))))
  mss_nil)
  (mss_cons (ms_if (ktcmp (op_eqD hr.units) (ok_eqS _) (kvar 0) (me_lst ma_nil))
  (mss_one (ms_ret me_int))
  mss_nil)
  (mss_cons (kset 2 sc__law_cell_at.nd (kix ix_seq (ok_ixS _) (kvar 0) (me_op op_mod (ok_mod _) (kvar 1) (kcallB cr_len (ok_lenS _) Z.len bb_len (kacons (kvar 0) ma_nil)))))
  (mss_cons (kfor (.nm 3) po (krange1 Z.range (kacons (kcallB (call_min2 rfl) (ok_min2 _) Z.min bb_min (kacons (me_op op_fdiv (ok_fdiv _) (kvar 1) (kcallB cr_len (ok_lenS _) Z.len bb_len (kacons (kvar 0) ma_nil))) (kacons me_int ma_nil))) ma_nil)) (kname 3 sc__law_cell_at.nd)
  (mss_one (kset 2 sc__law_cell_at.nd (me_op op_fdiv (ok_fdiv _) (kvar 2) me_int))))
  (mss_one (ms_ret (me_op op_addA (ok_add _) (me_op op_addA (ok_add _) (me_op op_mulA (ok_mul _) (kix ix_seq (ok_ixS _) (kvar 0) (me_op op_mod (ok_mod _) (kvar 1) (kcallB cr_len (ok_lenS _) Z.len bb_len (kacons (kvar 0) ma_nil)))) me_int) (kvar 1)) (me_op op_mulA (ok_mul _) (kvar 2) me_int))))))))
theorem sc__law_mixed : FnScope ["script", "k", "many", "spun"] ["script", "k", "many"] (defScope (top 17)) := fnSc
theorem p__law_mixed (F : FunD K "_law_mixed" "_law_mixed" (defArgs (top 17)) (defBody (top 17)) (defScope (top 17)) [] [] f fd) (Z : Bt mg) (h__law_cell_at : Has P w K mg base "_law_cell_at" 1 2 false m__law_cell_at) : FnOk P w K mg base (L2.CX P w) 2 f fd ["script", "k", "many"] (spX K mg 3 false m__law_mixed) :=
  kfn (fb := b__law_mixed) F sc__law_mixed fun cdv A outer s H E hr tk po =>
  (mss_cons (kset 3 sc__law_mixed.nd (me_op op_mod (ok_mod _) (me_op op_addA (ok_add _) (me_op op_addA (ok_add _) (me_op op_mulA (ok_mul _) (kcall h__law_cell_at mkF_len hr (kacons (kvar 0) (kacons (kvar 1) ma_nil))) me_int) (me_op op_mulA (ok_mul _) me_int (kvar 1))) me_int) me_int))
  (mss_one (ms_ret (me_op op_mod (ok_mod _) (me_op op_mod (ok_mod _) (me_op op_mod (ok_mod _) (me_op op_pow (ok_pow _) (kvar 3) me_int) me_int) me_int) (kvar 2)))))
theorem sc__law_draw : FnScope ["script", "town", "many"] ["script", "town", "many"] (defScope (top 18)) := fnSc
theorem p__law_draw (F : FunD K "_law_draw" "_law_draw" (defArgs (top 18)) (defBody (top 18)) (defScope (top 18)) [] [] f fd) (Z : Bt mg) (h__law_mixed : Has P w K mg base "_law_mixed" 2 3 false m__law_mixed) : FnOk P w K mg base (L2.CX P w) 3 f fd ["script", "town", "many"] (spX K mg 3 false m__law_draw) :=
  kfn (fb := b__law_draw) F sc__law_draw fun cdv A outer s H E hr tk po =>
  (mss_cons (ktown 1 (kpv 1))
  (mss_one (ms_ret (kcall h__law_mixed mkF_len hr (kacons (kvar 0) (kacons (klenTown 1 Z.len (kpv 1)) (kacons (kvar 2) ma_nil)))))))
theorem sc__law_same_truth : FnScope ["got", "due"] ["got", "due"] (defScope (top 19)) := fnSc
theorem p__law_same_truth (F : FunD K "_law_same_truth" "_law_same_truth" (defArgs (top 19)) (defBody (top 19)) (defScope (top 19)) [] [] f fd) (Z : Bt mg) : FnOk P w K mg base (L2.CX P w) 1 f fd ["got", "due"] (spX K mg 2 false m__law_same_truth) :=
  kfn (fb := b__law_same_truth) F sc__law_same_truth fun cdv A outer s H E hr tk po =>
  (mss_one (ms_ret (me_and (kisi kit_bool Z.isinstance (kvar 0) (ktyN Z.bool bb_bool)) (me_one (kcmp (op_eqD hr.units) (ok_eq _) (kvar 0) (kvar 1))))))
theorem sc__law_pick : FnScope ["script", "town", "some"] ["script", "town", "some"] (defScope (top 20)) := fnSc
theorem p__law_pick (F : FunD K "_law_pick" "_law_pick" (defArgs (top 20)) (defBody (top 20)) (defScope (top 20)) [] [] f fd) (Z : Bt mg) (h__law_draw : Has P w K mg base "_law_draw" 3 3 false m__law_draw) : FnOk P w K mg base (L2.CX P w) 4 f fd ["script", "town", "some"] (spX K mg 3 false m__law_pick) :=
  kfn (fb := b__law_pick) F sc__law_pick fun cdv A outer s H E hr tk po =>
  (mss_one (ms_ret (kix ix_seq (ok_ix _) (kvar 2) (kcall h__law_draw mkF_len hr (kacons (kvar 0) (kacons (kvar 1) (kacons (kcallB cr_len (ok_len _) Z.len bb_len (kacons (kvar 2) ma_nil)) ma_nil)))))))
theorem sc__law_any_matrix : FnScope ["script", "town", "most", "count", "top", "rare", "rows", "i", "row", "j"] ["script", "town", "most"] (defScope (top 21)) := fnSc
theorem p__law_any_matrix (F : FunD K "_law_any_matrix" "_law_any_matrix" (defArgs (top 21)) (defBody (top 21)) (defScope (top 21)) [] [] f fd) (Z : Bt mg) (h__law_pick : Has P w K mg base "_law_pick" 4 3 false m__law_pick) (h__law_draw : Has P w K mg base "_law_draw" 3 3 false m__law_draw) : FnOk P w K mg base (L2.CX P w) 5 f fd ["script", "town", "most"] (spX K mg 3 false m__law_any_matrix) :=
  kfn (fb := b__law_any_matrix) F sc__law_any_matrix fun cdv A outer s H E hr tk po =>
  (mss_cons (kset 3 sc__law_any_matrix.nd (me_op op_addA (ok_add _) me_int (kcall h__law_draw mkF_len hr (kacons (kvar 0) (kacons (kvar 1) (kacons (kvar 2) ma_nil))))))
  (mss_cons (kset 4 sc__law_any_matrix.nd (kcall h__law_pick mkF_len hr (kacons (kvar 0) (kacons (kvar 1) (kacons (me_lst (kacons me_int (kacons me_int (kacons me_int (kacons me_int ma_nil))))) ma_nil)))))
  (mss_cons (kset 5 sc__law_any_matrix.nd (kcall h__law_draw mkF_len hr (kacons (kvar 0) (kacons (kvar 1) (kacons me_int ma_nil)))))
  (mss_cons (ksetO 6 sc__law_any_matrix.nd (mf_lst ma_nil))
  (mss_cons (kfor (.nm 7) po (krange1 Z.range (kacons (kvar 3) ma_nil)) (kname 7 sc__law_any_matrix.nd)
  (mss_cons (ms_own (ksetLc 8 [("j", 9)] sc__law_any_matrix.nd (krange1 Z.range (kacons (kvar 3) ma_nil)) (fun _ _ _ _ _ => (kname 9 sc__law_any_matrix.nd)) (fun _ _ _ _ _ => mts_nil) (fun _ _ _ _ _ => (me_if (ktcmp op_lt (ok_cmp _) (kcall h__law_draw mkF_len hr (kacons (kvar 0) (kacons (kvar 1) (kacons me_int ma_nil)))) (kvar 5)) me_int (kcall h__law_draw mkF_len hr (kacons (kvar 0) (kacons (kvar 1) (kacons (kvar 4) ma_nil))))))) rfl)
  (mss_one (ms_app (kappend 6 (kpv 6) (kcallTy call_tuple_of (ok_tuple _) Z.tuple bb_tuple (kacons (kvar 8) ma_nil)))))))
  (mss_one (ms_ret (kcallTy call_tuple_of (ok_tuple _) Z.tuple bb_tuple (kacons (kvar 6) ma_nil)))))))))
theorem sc__law_orders_of : FnScope ["count", "made", "again", "later", "one", "column"] ["count"] (defScope (top 22)) := fnSc
theorem p__law_orders_of (F : FunD K "_law_orders_of" "_law_orders_of" (defArgs (top 22)) (defBody (top 22)) (defScope (top 22)) [] [] f fd) (Z : Bt mg) : FnOk P w K mg base (L2.CX P w) 1 f fd ["count"] (spX K mg 1 false m__law_orders_of) :=
  kfn (fb := b__law_orders_of) F sc__law_orders_of fun cdv A outer s H E hr tk po =>
  (mss_cons (ksetO 1 sc__law_orders_of.nd (mf_lst (kacons (me_tup ma_nil) ma_nil)))
  (mss_cons (kfor (.nm 2) po (krange1 Z.range (kacons (kvar 0) ma_nil)) (kname 2 sc__law_orders_of.nd)
  (mss_cons (ksetO 3 sc__law_orders_of.nd (mf_lst ma_nil))
  (mss_cons (ms_frz (i := 1) (kfor (.nm 4) po (mi_seq (kvar 1)) (kname 4 sc__law_orders_of.nd)
  (mss_one (ms_ext (kextend 3 (kpv 3) (MF.me (klc [("column", 5)] sc__law_orders_of.nd (krange1 Z.range (kacons (kvar 0) ma_nil)) (fun _ _ _ _ _ => (kname 5 sc__law_orders_of.nd)) (fun _ _ _ _ _ => (mts_one (ktcmp (op_notInA hr.u65) (ok_notIn _) (kvar 5) (kvar 4)))) (fun _ _ _ _ _ => (me_op op_addA (ok_add _) (kvar 4) (me_tup (kacons (kvar 5) ma_nil)))))))))))
  (mss_one (kmv 3 1 sc__law_orders_of.nd (kpv 3))))))
  (mss_one (ms_ret (kvar 1)))))
theorem sc__law_even_matrix : FnScope ["script", "town", "most", "parts", "count", "rows", "row", "some", "again", "order", "more", "i"] ["script", "town", "most", "parts"] (defScope (top 23)) := fnSc
theorem p__law_even_matrix (F : FunD K "_law_even_matrix" "_law_even_matrix" (defArgs (top 23)) (defBody (top 23)) (defScope (top 23)) [] [] f fd) (Z : Bt mg) (h__law_orders_of : Has P w K mg base "_law_orders_of" 1 1 false m__law_orders_of) (h__law_draw : Has P w K mg base "_law_draw" 3 3 false m__law_draw) (h__law_pick : Has P w K mg base "_law_pick" 4 3 false m__law_pick) : FnOk P w K mg base (L2.CX P w) 5 f fd ["script", "town", "most", "parts"] (spX K mg 4 false m__law_even_matrix) :=
  kfn (fb := b__law_even_matrix) F sc__law_even_matrix fun cdv A outer s H E hr tk po =>
  (mss_cons (kset 4 sc__law_even_matrix.nd (me_op op_addA (ok_add _) me_int (kcall h__law_draw mkF_len hr (kacons (kvar 0) (kacons (kvar 1) (kacons (kvar 2) ma_nil))))))
  (mss_cons (ms_own2 (ksetLc2C 5 [("row", 6)] sc__law_even_matrix.nd (krange1 Z.range (kacons (kvar 4) ma_nil)) (fun _ _ _ _ _ => (kname 6 sc__law_even_matrix.nd)) (fun _ _ _ _ _ => (mf_rep (me_lst (kacons me_int ma_nil)) (kvar 4)))))
  (mss_cons (ksetH 7 sc__law_even_matrix.nd (kcall h__law_orders_of mkF_len hr (kacons (kvar 4) ma_nil)))
  (mss_cons (kfor (.nm 8) po (krange1 Z.range (kacons (kcall h__law_draw mkF_len hr (kacons (kvar 0) (kacons (kvar 1) (kacons (me_op op_addA (ok_add _) (kvar 3) me_int) ma_nil)))) ma_nil)) (kname 8 sc__law_even_matrix.nd)
  (mss_cons (kset 9 sc__law_even_matrix.nd (kcall h__law_pick mkF_len hr (kacons (kvar 0) (kacons (kvar 1) (kacons (kvar 7) ma_nil)))))
  (mss_cons (kset 10 sc__law_even_matrix.nd (me_op op_addA (ok_add _) me_int (kcall h__law_draw mkF_len hr (kacons (kvar 0) (kacons (kvar 1) (kacons me_int ma_nil))))))
  (mss_one (ms_if (ktcmp op_lt (ok_cmp _) (me_op op_addA (ok_add _) (kcallB (cr_maxA rfl) (ok_max _) Z.max bb_max (kacons (MF.me (klc [("i", 11)] sc__law_even_matrix.nd (krange1 Z.range (kacons (kvar 4) ma_nil)) (fun _ _ _ _ _ => (kname 11 sc__law_even_matrix.nd)) (fun _ _ _ _ _ => mts_nil) (fun _ _ _ _ _ => (kix ix_seq (ok_ix _) (kix ix_seq (ok_ix _) (kvar 5) (kvar 11)) (kix ix_seq (ok_ix _) (kvar 9) (kvar 11)))))) ma_nil)) (kvar 10)) me_int)
  (mss_one (kfor (.nm 11) po (krange1 Z.range (kacons (kvar 4) ma_nil)) (kname 11 sc__law_even_matrix.nd)
  (mss_one (kaug2 5 (kpv 5) (kvar 11) (kix ix_seq (ok_ix _) (kvar 9) (kvar 11)) (kvar 10) ip_add))))
  mss_nil)))))
  (mss_one (ms_ret (kcallTy call_tuple_of (ok_tuple _) Z.tuple bb_tuple (kacons (MF.me (klc [("row", 6)] sc__law_even_matrix.nd (mi_seq (kvar 5)) (fun _ _ _ _ _ => (kname 6 sc__law_even_matrix.nd)) (fun _ _ _ _ _ => mts_nil) (fun _ _ _ _ _ => (kcallTy call_tuple_of (ok_tuple _) Z.tuple bb_tuple (kacons (kvar 6) ma_nil))))) ma_nil))))))))
theorem sc__law_line_totals : FnScope ["own", "totals", "row", "j"] ["own"] (defScope (top 24)) := fnSc
theorem p__law_line_totals (F : FunD K "_law_line_totals" "_law_line_totals" (defArgs (top 24)) (defBody (top 24)) (defScope (top 24)) [] [] f fd) (Z : Bt mg) : FnOk P w K mg base (L2.CX P w) 1 f fd ["own"] (spX K mg 1 false m__law_line_totals) :=
  kfn (fb := b__law_line_totals) F sc__law_line_totals fun cdv A outer s H E hr tk po =>
  (mss_cons (ms_own (ksetLc 1 [("row", 2)] sc__law_line_totals.nd (mi_seq (kvar 0)) (fun _ _ _ _ _ => (kname 2 sc__law_line_totals.nd)) (fun _ _ _ _ _ => mts_nil) (fun _ _ _ _ _ => (kcallB (cr_sumA rfl) (ok_sum _) Z.sum bb_sum (kacons (kvar 2) ma_nil)))) rfl)
  (mss_one (ms_ret (me_op op_addA (ok_add _) (kvar 1) (MF.me (klc [("j", 3)] sc__law_line_totals.nd (krange1 Z.range (kacons (kcallB cr_len (ok_len _) Z.len bb_len (kacons (kvar 0) ma_nil)) ma_nil)) (fun _ _ _ _ _ => (kname 3 sc__law_line_totals.nd)) (fun _ _ _ _ _ => mts_nil) (fun _ _ _ _ _ => (kcallB (cr_sumA rfl) (ok_sum _) Z.sum bb_sum (kacons (MF.me (klc [("row", 2)] sc__law_line_totals.nd (mi_seq (kvar 0)) (fun _ _ _ _ _ => (kname 2 sc__law_line_totals.nd)) (fun _ _ _ _ _ => mts_nil) (fun _ _ _ _ _ => (kix ix_seq (ok_ix _) (kvar 2) (kvar 3))))) ma_nil)))))))))
theorem sc__law_fine : FnScope ["own", "value", "total", "row", "other", "entry", "more"] ["own", "value"] (defScope (top 25)) := fnSc
theorem p__law_fine (F : FunD K "_law_fine" "_law_fine" (defArgs (top 25)) (defBody (top 25)) (defScope (top 25)) [] [] f fd) (Z : Bt mg) (h__law_line_totals : Has P w K mg base "_law_line_totals" 1 1 false m__law_line_totals) : FnOk P w K mg base (L2.CX P w) 2 f fd ["own", "value"] (spX K mg 2 false m__law_fine) :=
  kfn (fb := b__law_fine) F sc__law_fine fun cdv A outer s H E hr tk po =>
  (mss_cons (ms_if (ktcmp (op_neD hr.units) (ok_ne _) (MF.me (klc [("total", 2)] sc__law_fine.nd (mi_seq (kcall h__law_line_totals mkF_len hr (kacons (kvar 1) ma_nil))) (fun _ _ _ _ _ => (kname 2 sc__law_fine.nd)) (fun _ _ _ _ _ => (mts_one (ktcmp (op_neD hr.units) (ok_ne _) (kvar 2) (kcallB (cr_maxA rfl) (ok_max _) Z.max bb_max (kacons (kcall h__law_line_totals mkF_len hr (kacons (kvar 0) ma_nil)) ma_nil))))) (fun _ _ _ _ _ => (kvar 2)))) (me_lst ma_nil))
  (mss_one (ms_ret me_bl))
  mss_nil)
  (mss_cons (kfor (.tp [3, 4]) po (kzip Z.zip (kacons (kvar 0) (kacons (kvar 1) ma_nil))) (ktup2 3 4 sc__law_fine.nd)
  (mss_one (ms_if (ktcmp (op_neD hr.units) (ok_ne _) (MF.me (klc [("entry", 5), ("more", 6)] sc__law_fine.nd (kzip Z.zip (kacons (kvar 3) (kacons (kvar 4) ma_nil))) (fun _ _ _ _ _ => (ktup2 5 6 sc__law_fine.nd)) (fun _ _ _ _ _ => (mts_one (ktcmp op_gt (ok_cmp _) (kvar 5) (kvar 6)))) (fun _ _ _ _ _ => (kvar 5)))) (me_lst ma_nil))
  (mss_one (ms_ret me_bl))
  mss_nil)))
  (mss_one (ms_ret me_bl))))
theorem sc_law : FnScope ["script", "town", "own", "count", "got", "totals", "rows", "row", "i", "j", "k", "m", "again", "a", "b", "more", "other", "odds", "odd"] ["script"] (defScope (top 26)) := fnSc
theorem p_law (F : FunD K "law" "law" (defArgs (top 26)) (defBody (top 26)) (defScope (top 26)) [] [] f fd) (Z : Bt mg) (h__law_any_matrix : Has P w K mg base "_law_any_matrix" 5 3 false m__law_any_matrix) (h_raised : Has P w K mg base "raised" 5 1 false m_raised) (h__law_line_totals : Has P w K mg base "_law_line_totals" 1 1 false m__law_line_totals) (h__law_draw : Has P w K mg base "_law_draw" 3 3 false m__law_draw) (h__law_even_matrix : Has P w K mg base "_law_even_matrix" 5 4 false m__law_even_matrix) (h__law_fine : Has P w K mg base "_law_fine" 2 2 false m__law_fine) (h_is_raised : Has P w K mg base "is_raised" 5 2 false m_is_raised) (h__law_same_truth : Has P w K mg base "_law_same_truth" 1 2 false m__law_same_truth) (hT : ∀ ns : List Int, ns.length ≤ 63 → ∃ n', b_law (some (.val (scrD ns)) :: some (.val townD) :: List.replicate 17 none) 0 = some (.rt (.bool true), n')) : FnOk P w K mg base (L2.CX P w) 6 f fd ["script"] (spLaw K) :=
  klaw (fb := b_law) (show FunD K "law" "law" (defArgs (top 26)) ((defBody (top 26)).headD (.Pass ⟨0, 0, 0, 0⟩) :: (defBody (top 26)).tail) (defScope (top 26)) [] [] f fd from F) sc_law (fun cdv A outer s H E => ktown0 sc_law.nd) (fun cdv A outer s H E hr tk po =>
  (mss_cons (kset 2 sc_law.nd (kcall h__law_any_matrix mkF_len hr (kacons (kvar 0) (kacons (kvar 1) (kacons me_int ma_nil)))))
  (mss_cons (ms_if (ktcmp (op_eqD hr.units) (ok_eq _) (kcall h__law_draw mkF_len hr (kacons (kvar 0) (kacons (kvar 1) (kacons me_int ma_nil)))) me_int)
  (mss_one (kset 2 sc_law.nd (kcall h__law_even_matrix mkF_len hr (kacons (kvar 0) (kacons (kvar 1) (kacons me_int (kacons me_int ma_nil)))))))
  mss_nil)
  (mss_cons (kset 3 sc_law.nd (kcallB cr_len (ok_len _) Z.len bb_len (kacons (kvar 2) ma_nil)))
  (mss_cons (kset 4 sc_law.nd (kcall h_raised mkF_len hr (kacons (kvar 2) ma_nil)))
  (mss_cons (ms_if (PW.pt (mw_or (mt_not (ktval (kcall h__law_fine mkF_len hr (kacons (kvar 2) (kacons (kvar 4) ma_nil))))) (mw_or1 (ktcmp op_isNotA (ok_isNot _) (kcall h_is_raised mkF_len hr (kacons (kvar 2) (kacons (kvar 4) ma_nil))) me_bl))))
  (mss_one (ms_ret me_bl))
  mss_nil)
  (mss_cons (ksetH 5 sc_law.nd (kcall h__law_line_totals mkF_len hr (kacons (kvar 2) ma_nil)))
  (mss_cons (ms_if (PW.pt (mw_and (ktcmp (op_eqD hr.units) (ok_eq _) (kcallB (cr_minA rfl) (ok_min _) Z.min bb_min (kacons (kvar 5) ma_nil)) (kcallB (cr_maxA rfl) (ok_max _) Z.max bb_max (kacons (kvar 5) ma_nil))) (mw_and1 (ktcmp (op_neD hr.units) (ok_ne _) (kvar 4) (kvar 2)))))
  (mss_one (ms_ret me_bl))
  mss_nil)
  (mss_cons (ms_own2 (ksetLc2 6 [("row", 7)] sc_law.nd (mi_seq (kvar 4)) (fun _ _ _ _ _ => (kname 7 sc_law.nd)) (fun _ _ _ _ _ => (kflist Z.list (kacons (kvar 7) ma_nil)))))
  (mss_cons (kunp [8, 9, 10, 11] sc_law.nd (MF.me (klc [("again", 12)] sc_law.nd (krange1 Z.range (kacons me_int ma_nil)) (fun _ _ _ _ _ => (kname 12 sc_law.nd)) (fun _ _ _ _ _ => mts_nil) (fun _ _ _ _ _ => (kcall h__law_draw mkF_len hr (kacons (kvar 0) (kacons (kvar 1) (kacons (kvar 3) ma_nil))))))))
  (mss_cons (ms_if (PW.pt (mw_and (ktcmp (op_neD hr.units) (ok_ne _) (kvar 8) (kvar 10)) (mw_and (ktcmp (op_neD hr.units) (ok_ne _) (kvar 9) (kvar 11)) (mw_and (ktcmp op_gt (ok_cmp _) (kix ix_seq (ok_ix _) (kix ix_seq (ok_ix _) (kvar 6) (kvar 8)) (kvar 9)) me_int) (mw_and1 (ktcmp op_gt (ok_cmp _) (kix ix_seq (ok_ix _) (kix ix_seq (ok_ix _) (kvar 6) (kvar 10)) (kvar 11)) me_int))))))
  (mss_cons (kfor (.tp [13, 14, 15]) po (mi_seq (me_lst (kacons (me_tup (kacons (kvar 8) (kacons (kvar 9) (kacons (me_un un_neg (ok_neg _) me_int) ma_nil)))) (kacons (me_tup (kacons (kvar 10) (kacons (kvar 11) (kacons (me_un un_neg (ok_neg _) me_int) ma_nil)))) (kacons (me_tup (kacons (kvar 8) (kacons (kvar 11) (kacons me_int ma_nil)))) (kacons (me_tup (kacons (kvar 10) (kacons (kvar 9) (kacons me_int ma_nil)))) ma_nil)))))) (ktup3 13 14 15 sc_law.nd)
  (mss_one (kaug2 6 (kpv 6) (kvar 13) (kvar 14) (kvar 15) ip_add)))
  (mss_cons (kset 16 sc_law.nd (kcallTy call_tuple_of (ok_tuple _) Z.tuple bb_tuple (kacons (MF.me (klc [("row", 7)] sc_law.nd (mi_seq (kvar 6)) (fun _ _ _ _ _ => (kname 7 sc_law.nd)) (fun _ _ _ _ _ => mts_nil) (fun _ _ _ _ _ => (kcallTy call_tuple_of (ok_tuple _) Z.tuple bb_tuple (kacons (kvar 7) ma_nil))))) ma_nil)))
  (mss_one (ms_if (mt_not (ktval (kcall h__law_same_truth mkF_len hr (kacons (kcall h_is_raised mkF_len hr (kacons (kvar 2) (kacons (kvar 16) ma_nil))) (kacons (kcall h__law_fine mkF_len hr (kacons (kvar 2) (kacons (kvar 16) ma_nil))) ma_nil)))))
  (mss_one (ms_ret me_bl))
  mss_nil))))
  mss_nil)
  (mss_cons (ksetOH 17 sc_law.nd (mf_lst (kacons me_non (kacons (kcallTy call_list_of (ok_list _) Z.list bb_list (kacons (kvar 4) ma_nil)) (kacons (me_op op_addA (ok_add _) (kvar 4) (me_slice sl_all (ok_sl _) (kvar 4) mo_none (mo_some me_int))) (kacons (me_slice sl_all (ok_sl _) (kvar 4) (mo_some me_int) mo_none) (kacons (me_op op_addA (ok_add _) (me_tup (kacons (kcallTy call_list_of (ok_list _) Z.list bb_list (kacons (kix ix_seq (ok_ix _) (kvar 4) me_int) ma_nil)) ma_nil)) (me_slice sl_all (ok_sl _) (kvar 4) (mo_some me_int) mo_none)) (kacons (me_op op_addA (ok_add _) (me_tup (kacons (me_op op_addA (ok_add _) (kix ix_seq (ok_ix _) (kvar 4) me_int) (me_tup (kacons me_int ma_nil))) ma_nil)) (me_slice sl_all (ok_sl _) (kvar 4) (mo_some me_int) mo_none)) ma_nil))))))))
  (mss_cons (ms_appH (kappend 17 (kpv 17) (me_op op_addA (ok_add _) (me_tup (kacons (me_op op_addA (ok_add _) (me_tup (kacons (me_op op_addA (ok_add _) (kix ix_seq (ok_ix _) (kix ix_seq (ok_ix _) (kvar 4) me_int) me_int) me_int) ma_nil)) (me_slice sl_all (ok_sl _) (kix ix_seq (ok_ix _) (kvar 4) me_int) (mo_some me_int) mo_none)) ma_nil)) (me_slice sl_all (ok_sl _) (kvar 4) (mo_some me_int) mo_none))))
  (mss_one (ms_ret (kcmp (op_eqD hr.units) (ok_eq _) (MF.me (klc [("odd", 18)] sc_law.nd (mi_seq (kvar 17)) (fun _ _ _ _ _ => (kname 18 sc_law.nd)) (fun _ _ _ _ _ => mts_nil) (fun _ _ _ _ _ => (kcall h_is_raised mkF_len hr (kacons (kvar 2) (kacons (kvar 18) ma_nil)))))) (me_op op_mulA (ok_mul _) (me_lst (kacons me_bl ma_nil)) (kcallB cr_len (ok_len _) Z.len bb_len (kacons (kvar 17) ma_nil))))))))))))))))))) hT
end

def dd_is_integer : He.DefD := ⟨("is_integer", none), "is_integer", "is_integer", defArgs (top 5), defBody (top 5), defScope (top 5), [], []⟩
def dd_is_square_of : He.DefD := ⟨("is_square_of", none), "is_square_of", "is_square_of", defArgs (top 6), defBody (top 6), defScope (top 6), [], []⟩
def dd_is_matrix : He.DefD := ⟨("is_matrix", none), "is_matrix", "is_matrix", defArgs (top 7), defBody (top 7), defScope (top 7), [], []⟩
def dd_check_matrix : He.DefD := ⟨("check_matrix", none), "check_matrix", "check_matrix", defArgs (top 8), defBody (top 8), defScope (top 8), [], []⟩
def dd_line_sums : He.DefD := ⟨("line_sums", none), "line_sums", "line_sums", defArgs (top 9), defBody (top 9), defScope (top 9), [], []⟩
def dd_degree_of : He.DefD := ⟨("degree_of", none), "degree_of", "degree_of", defArgs (top 10), defBody (top 10), defScope (top 10), [], []⟩
def dd_lifted : He.DefD := ⟨("lifted", none), "lifted", "lifted", defArgs (top 12), defBody (top 12), defScope (top 12), [], []⟩
def dd_raised : He.DefD := ⟨("raised", none), "raised", "raised", defArgs (top 13), defBody (top 13), defScope (top 13), [], []⟩
def dd_is_raised : He.DefD := ⟨("is_raised", none), "is_raised", "is_raised", defArgs (top 14), defBody (top 14), defScope (top 14), [], []⟩
def dd__law_cell_at : He.DefD := ⟨("_law_cell_at", none), "_law_cell_at", "_law_cell_at", defArgs (top 16), defBody (top 16), defScope (top 16), [], []⟩
def dd__law_mixed : He.DefD := ⟨("_law_mixed", none), "_law_mixed", "_law_mixed", defArgs (top 17), defBody (top 17), defScope (top 17), [], []⟩
def dd__law_draw : He.DefD := ⟨("_law_draw", none), "_law_draw", "_law_draw", defArgs (top 18), defBody (top 18), defScope (top 18), [], []⟩
def dd__law_same_truth : He.DefD := ⟨("_law_same_truth", none), "_law_same_truth", "_law_same_truth", defArgs (top 19), defBody (top 19), defScope (top 19), [], []⟩
def dd__law_pick : He.DefD := ⟨("_law_pick", none), "_law_pick", "_law_pick", defArgs (top 20), defBody (top 20), defScope (top 20), [], []⟩
def dd__law_any_matrix : He.DefD := ⟨("_law_any_matrix", none), "_law_any_matrix", "_law_any_matrix", defArgs (top 21), defBody (top 21), defScope (top 21), [], []⟩
def dd__law_orders_of : He.DefD := ⟨("_law_orders_of", none), "_law_orders_of", "_law_orders_of", defArgs (top 22), defBody (top 22), defScope (top 22), [], []⟩
def dd__law_even_matrix : He.DefD := ⟨("_law_even_matrix", none), "_law_even_matrix", "_law_even_matrix", defArgs (top 23), defBody (top 23), defScope (top 23), [], []⟩
def dd__law_line_totals : He.DefD := ⟨("_law_line_totals", none), "_law_line_totals", "_law_line_totals", defArgs (top 24), defBody (top 24), defScope (top 24), [], []⟩
def dd__law_fine : He.DefD := ⟨("_law_fine", none), "_law_fine", "_law_fine", defArgs (top 25), defBody (top 25), defScope (top 25), [], []⟩
def dd_law : He.DefD := ⟨("law", none), "law", "law", defArgs (top 26), defBody (top 26), defScope (top 26), [], []⟩
def hfn : List He.DefD := ([dd_is_integer, dd_is_square_of, dd_is_matrix, dd_check_matrix, dd_line_sums, dd_degree_of, dd_lifted, dd_raised, dd_is_raised, dd__law_cell_at, dd__law_mixed, dd__law_draw, dd__law_same_truth, dd__law_pick, dd__law_any_matrix] : List He.DefD) ++ ([dd__law_orders_of, dd__law_even_matrix, dd__law_line_totals, dd__law_fine, dd_law] : List He.DefD)
def hfa : List He.Fa := ([.glo "is_integer", .glo "is_square_of", .glo "is_matrix", .glo "check_matrix", .glo "line_sums", .glo "degree_of", .glo "lifted", .glo "raised", .glo "is_raised", .glo "_law_cell_at", .glo "_law_mixed", .glo "_law_draw", .glo "_law_same_truth", .glo "_law_pick", .glo "_law_any_matrix"] : List He.Fa) ++ ([.glo "_law_orders_of", .glo "_law_even_matrix", .glo "_law_line_totals", .glo "_law_fine", .glo "law", .free "len", .free "min", .free "max", .free "sum", .free "range", .free "zip", .free "enumerate", .free "sorted", .free "set", .free "list"] : List He.Fa) ++ ([.free "tuple", .free "isinstance", .free "all", .free "any", .free "int", .free "bool", .free "str", .free "dict", .glo "InvalidMatrix", .exc "InvalidMatrix", .int "LARGEST" 9] : List He.Fa)
def loose : List PySem.Str := (["SplitError", "InvalidMatrix", "LARGEST", "is_integer", "is_square_of", "is_matrix", "check_matrix", "line_sums", "degree_of", "lifted", "raised", "is_raised", "_law_cell_at", "_law_mixed", "_law_draw"] : List PySem.Str) ++ (["_law_same_truth", "_law_pick", "_law_any_matrix", "_law_orders_of", "_law_even_matrix", "_law_line_totals", "_law_fine"] : List PySem.Str)
abbrev RR : PySem.W.OpenRow := PySem.W.OpenLaw.row PySem.Challenge.rw_permsplits_k07_whole_raised
abbrev hk : PySem.W.Hook := He.hookD 4 hfa hfn
def hob (s : PySem.W.SharedT) : He.AlD := He.obsDG 4 hfa hfn (HandSHeadRun.getT s)
theorem hob_eq (s : PySem.W.SharedT) : hob s = hk.obs s.abs := He.obsDG_eq (HandSHeadRun.getT_eq s)
theorem hrun (w : World) : HandSHeadRun.RunEq RR (PySem.W.view RR.prog [26]) hk hob 3000 loose w := by
  intro os
  kernel_rfl
theorem facts {P : Program} {w : World} {K : PySem.W.Frag} {h : Heap} {mg : Str → Option Value} {f : Addr} (X : K.In h) (G : h.Ns mainGlobals mg) (hfa0 : mg ("law" : Str) = some (.ref f)) (c : He.SaysD hfa hfn K) :
    ∃ fd : FuncData, (∀ (s : Shared) (v : Value), BindsTo s fd ⟨[v], []⟩ [("script", v)]) ∧ ∀ base : Heap, K.In base → base.Ns mainGlobals mg → FnOk P w K mg base (L2.CX P w) 6 f fd ["script"] (spLaw K) := by
  obtain ⟨fd_is_integer, F_is_integer⟩ := c.def_ 0 (d := dd_is_integer) rfl
  obtain ⟨fd_is_square_of, F_is_square_of⟩ := c.def_ 1 (d := dd_is_square_of) rfl
  obtain ⟨fd_is_matrix, F_is_matrix⟩ := c.def_ 2 (d := dd_is_matrix) rfl
  obtain ⟨fd_check_matrix, F_check_matrix⟩ := c.def_ 3 (d := dd_check_matrix) rfl
  obtain ⟨fd_line_sums, F_line_sums⟩ := c.def_ 4 (d := dd_line_sums) rfl
  obtain ⟨fd_degree_of, F_degree_of⟩ := c.def_ 5 (d := dd_degree_of) rfl
  obtain ⟨fd_lifted, F_lifted⟩ := c.def_ 6 (d := dd_lifted) rfl
  obtain ⟨fd_raised, F_raised⟩ := c.def_ 7 (d := dd_raised) rfl
  obtain ⟨fd_is_raised, F_is_raised⟩ := c.def_ 8 (d := dd_is_raised) rfl
  obtain ⟨fd__law_cell_at, F__law_cell_at⟩ := c.def_ 9 (d := dd__law_cell_at) rfl
  obtain ⟨fd__law_mixed, F__law_mixed⟩ := c.def_ 10 (d := dd__law_mixed) rfl
  obtain ⟨fd__law_draw, F__law_draw⟩ := c.def_ 11 (d := dd__law_draw) rfl
  obtain ⟨fd__law_same_truth, F__law_same_truth⟩ := c.def_ 12 (d := dd__law_same_truth) rfl
  obtain ⟨fd__law_pick, F__law_pick⟩ := c.def_ 13 (d := dd__law_pick) rfl
  obtain ⟨fd__law_any_matrix, F__law_any_matrix⟩ := c.def_ 14 (d := dd__law_any_matrix) rfl
  obtain ⟨fd__law_orders_of, F__law_orders_of⟩ := c.def_ 15 (d := dd__law_orders_of) rfl
  obtain ⟨fd__law_even_matrix, F__law_even_matrix⟩ := c.def_ 16 (d := dd__law_even_matrix) rfl
  obtain ⟨fd__law_line_totals, F__law_line_totals⟩ := c.def_ 17 (d := dd__law_line_totals) rfl
  obtain ⟨fd__law_fine, F__law_fine⟩ := c.def_ 18 (d := dd__law_fine) rfl
  obtain ⟨fd_law, F_law⟩ := c.def_ 19 (d := dd_law) rfl
  have g_is_integer := He.glo_ok X G (c.fact 0 (f := .glo "is_integer") rfl)
  have g_is_square_of := He.glo_ok X G (c.fact 1 (f := .glo "is_square_of") rfl)
  have g_is_matrix := He.glo_ok X G (c.fact 2 (f := .glo "is_matrix") rfl)
  have g_check_matrix := He.glo_ok X G (c.fact 3 (f := .glo "check_matrix") rfl)
  have g_line_sums := He.glo_ok X G (c.fact 4 (f := .glo "line_sums") rfl)
  have g_degree_of := He.glo_ok X G (c.fact 5 (f := .glo "degree_of") rfl)
  have g_lifted := He.glo_ok X G (c.fact 6 (f := .glo "lifted") rfl)
  have g_raised := He.glo_ok X G (c.fact 7 (f := .glo "raised") rfl)
  have g_is_raised := He.glo_ok X G (c.fact 8 (f := .glo "is_raised") rfl)
  have g__law_cell_at := He.glo_ok X G (c.fact 9 (f := .glo "_law_cell_at") rfl)
  have g__law_mixed := He.glo_ok X G (c.fact 10 (f := .glo "_law_mixed") rfl)
  have g__law_draw := He.glo_ok X G (c.fact 11 (f := .glo "_law_draw") rfl)
  have g__law_same_truth := He.glo_ok X G (c.fact 12 (f := .glo "_law_same_truth") rfl)
  have g__law_pick := He.glo_ok X G (c.fact 13 (f := .glo "_law_pick") rfl)
  have g__law_any_matrix := He.glo_ok X G (c.fact 14 (f := .glo "_law_any_matrix") rfl)
  have g__law_orders_of := He.glo_ok X G (c.fact 15 (f := .glo "_law_orders_of") rfl)
  have g__law_even_matrix := He.glo_ok X G (c.fact 16 (f := .glo "_law_even_matrix") rfl)
  have g__law_line_totals := He.glo_ok X G (c.fact 17 (f := .glo "_law_line_totals") rfl)
  have g__law_fine := He.glo_ok X G (c.fact 18 (f := .glo "_law_fine") rfl)
  have g_law := He.glo_ok X G (c.fact 19 (f := .glo "law") rfl)
  have Z : Bt mg := ⟨He.free_ok X G (c.fact 20 (f := .free "len") rfl), He.free_ok X G (c.fact 21 (f := .free "min") rfl), He.free_ok X G (c.fact 22 (f := .free "max") rfl), He.free_ok X G (c.fact 23 (f := .free "sum") rfl), He.free_ok X G (c.fact 24 (f := .free "range") rfl), He.free_ok X G (c.fact 25 (f := .free "zip") rfl), He.free_ok X G (c.fact 26 (f := .free "enumerate") rfl), He.free_ok X G (c.fact 27 (f := .free "sorted") rfl), He.free_ok X G (c.fact 28 (f := .free "set") rfl), He.free_ok X G (c.fact 29 (f := .free "list") rfl), He.free_ok X G (c.fact 30 (f := .free "tuple") rfl), He.free_ok X G (c.fact 31 (f := .free "isinstance") rfl), He.free_ok X G (c.fact 32 (f := .free "all") rfl), He.free_ok X G (c.fact 33 (f := .free "any") rfl), He.free_ok X G (c.fact 34 (f := .free "int") rfl), He.free_ok X G (c.fact 35 (f := .free "bool") rfl), He.free_ok X G (c.fact 36 (f := .free "str") rfl), He.free_ok X G (c.fact 37 (f := .free "dict") rfl)⟩
  have X_InvalidMatrix : ExF K mg "InvalidMatrix" := ⟨_, He.glo_ok X G (c.fact 38 (f := .glo "InvalidMatrix") rfl), He.exc_ok (c.fact 39 (f := .exc "InvalidMatrix") rfl)⟩
  have C_LARGEST := He.int_ok X G (c.fact 40 (f := .int "LARGEST" 9) rfl)
  cases hfa0.symm.trans g_law
  have b := FunD.bindsA (ps := ["script"]) F_law fun _ _ _ _ _ _ us hl => match us, hl with | [_], _ => rfl
  refine ⟨fd_law, fun s v => b s [v] rfl, fun base _ _ => ?_⟩
  have h_is_integer : Has P w K mg base "is_integer" 1 3 false m_is_integer := has_mk (ps := ["value", "low", "high"]) F_is_integer g_is_integer (p_is_integer F_is_integer Z ) (F_is_integer.bindsN fun _ _ _ _ _ _ us hl => match us, hl with | [_, _, _], _ => rfl)
  have h_line_sums : Has P w K mg base "line_sums" 1 1 false m_line_sums := has_mk (ps := ["matrix"]) F_line_sums g_line_sums (p_line_sums F_line_sums Z ) (F_line_sums.bindsN fun _ _ _ _ _ _ us hl => match us, hl with | [_], _ => rfl)
  have h__law_cell_at : Has P w K mg base "_law_cell_at" 1 2 false m__law_cell_at := has_mk (ps := ["script", "k"]) F__law_cell_at g__law_cell_at (p__law_cell_at F__law_cell_at Z ) (F__law_cell_at.bindsN fun _ _ _ _ _ _ us hl => match us, hl with | [_, _], _ => rfl)
  have h__law_same_truth : Has P w K mg base "_law_same_truth" 1 2 false m__law_same_truth := has_mk (ps := ["got", "due"]) F__law_same_truth g__law_same_truth (p__law_same_truth F__law_same_truth Z ) (F__law_same_truth.bindsN fun _ _ _ _ _ _ us hl => match us, hl with | [_, _], _ => rfl)
  have h__law_orders_of : Has P w K mg base "_law_orders_of" 1 1 false m__law_orders_of := has_mk (ps := ["count"]) F__law_orders_of g__law_orders_of (p__law_orders_of F__law_orders_of Z ) (F__law_orders_of.bindsN fun _ _ _ _ _ _ us hl => match us, hl with | [_], _ => rfl)
  have h__law_line_totals : Has P w K mg base "_law_line_totals" 1 1 false m__law_line_totals := has_mk (ps := ["own"]) F__law_line_totals g__law_line_totals (p__law_line_totals F__law_line_totals Z ) (F__law_line_totals.bindsN fun _ _ _ _ _ _ us hl => match us, hl with | [_], _ => rfl)
  have h_is_square_of : Has P w K mg base "is_square_of" 2 4 false m_is_square_of := has_mk (ps := ["value", "count", "low", "high"]) F_is_square_of g_is_square_of (p_is_square_of F_is_square_of Z h_is_integer) (F_is_square_of.bindsN fun _ _ _ _ _ _ us hl => match us, hl with | [_, _, _, _], _ => rfl)
  have h_degree_of : Has P w K mg base "degree_of" 2 1 false m_degree_of := has_mk (ps := ["matrix"]) F_degree_of g_degree_of (p_degree_of F_degree_of Z h_line_sums) (F_degree_of.bindsN fun _ _ _ _ _ _ us hl => match us, hl with | [_], _ => rfl)
  have h__law_mixed : Has P w K mg base "_law_mixed" 2 3 false m__law_mixed := has_mk (ps := ["script", "k", "many"]) F__law_mixed g__law_mixed (p__law_mixed F__law_mixed Z h__law_cell_at) (F__law_mixed.bindsN fun _ _ _ _ _ _ us hl => match us, hl with | [_, _, _], _ => rfl)
  have h__law_fine : Has P w K mg base "_law_fine" 2 2 false m__law_fine := has_mk (ps := ["own", "value"]) F__law_fine g__law_fine (p__law_fine F__law_fine Z h__law_line_totals) (F__law_fine.bindsN fun _ _ _ _ _ _ us hl => match us, hl with | [_, _], _ => rfl)
  have h_is_matrix : Has P w K mg base "is_matrix" 3 1 false m_is_matrix := has_mk (ps := ["value"]) F_is_matrix g_is_matrix (p_is_matrix F_is_matrix Z h_is_square_of C_LARGEST) (F_is_matrix.bindsN fun _ _ _ _ _ _ us hl => match us, hl with | [_], _ => rfl)
  have h_lifted : Has P w K mg base "lifted" 3 1 false m_lifted := has_mk (ps := ["matrix"]) F_lifted g_lifted (p_lifted F_lifted Z h_degree_of) (F_lifted.bindsN fun _ _ _ _ _ _ us hl => match us, hl with | [_], _ => rfl)
  have h__law_draw : Has P w K mg base "_law_draw" 3 3 false m__law_draw := has_mk (ps := ["script", "town", "many"]) F__law_draw g__law_draw (p__law_draw F__law_draw Z h__law_mixed) (F__law_draw.bindsN fun _ _ _ _ _ _ us hl => match us, hl with | [_, _, _], _ => rfl)
  have h_check_matrix : Has P w K mg base "check_matrix" 4 1 false m_check_matrix := has_mk (ps := ["matrix"]) F_check_matrix g_check_matrix (p_check_matrix F_check_matrix Z h_is_matrix X_InvalidMatrix) (F_check_matrix.bindsN fun _ _ _ _ _ _ us hl => match us, hl with | [_], _ => rfl)
  have h__law_pick : Has P w K mg base "_law_pick" 4 3 false m__law_pick := has_mk (ps := ["script", "town", "some"]) F__law_pick g__law_pick (p__law_pick F__law_pick Z h__law_draw) (F__law_pick.bindsN fun _ _ _ _ _ _ us hl => match us, hl with | [_, _, _], _ => rfl)
  have h_raised : Has P w K mg base "raised" 5 1 false m_raised := has_mk (ps := ["matrix"]) F_raised g_raised (p_raised F_raised Z h_check_matrix h_lifted) (F_raised.bindsN fun _ _ _ _ _ _ us hl => match us, hl with | [_], _ => rfl)
  have h_is_raised : Has P w K mg base "is_raised" 5 2 false m_is_raised := has_mk (ps := ["matrix", "value"]) F_is_raised g_is_raised (p_is_raised F_is_raised Z h_check_matrix h_is_square_of h_degree_of h_line_sums) (F_is_raised.bindsN fun _ _ _ _ _ _ us hl => match us, hl with | [_, _], _ => rfl)
  have h__law_any_matrix : Has P w K mg base "_law_any_matrix" 5 3 false m__law_any_matrix := has_mk (ps := ["script", "town", "most"]) F__law_any_matrix g__law_any_matrix (p__law_any_matrix F__law_any_matrix Z h__law_pick h__law_draw) (F__law_any_matrix.bindsN fun _ _ _ _ _ _ us hl => match us, hl with | [_, _, _], _ => rfl)
  have h__law_even_matrix : Has P w K mg base "_law_even_matrix" 5 4 false m__law_even_matrix := has_mk (ps := ["script", "town", "most", "parts"]) F__law_even_matrix g__law_even_matrix (p__law_even_matrix F__law_even_matrix Z h__law_orders_of h__law_draw h__law_pick) (F__law_even_matrix.bindsN fun _ _ _ _ _ _ us hl => match us, hl with | [_, _, _, _], _ => rfl)
  exact p_law F_law Z h__law_any_matrix h_raised h__law_line_totals h__law_draw h__law_even_matrix h__law_fine h_is_raised h__law_same_truth law_true

end Pm
open PySem PySem.W PySem.Calls PyProof.Rows
theorem PySem.Challenge.cw_permsplits_k07_whole_raised_holds : PySem.Challenge.rw_permsplits_k07_whole_raised.Holds := by
  w_on; o_law
  refine HandSHeadRun.head_any (r := OpenLaw.row PySem.Challenge.rw_permsplits_k07_whole_raised) (q := view (OpenLaw.row PySem.Challenge.rw_permsplits_k07_whole_raised).prog [26]) (H := Pm.hk) (ob := Pm.hob) (M := 3000) (loose := Pm.loose) (d := HandSHeadRun.topDef (OpenLaw.row PySem.Challenge.rw_permsplits_k07_whole_raised).prog 26) (kwd := []) Pm.hob_eq
    (by kernel_rfl) (fun s => by kernel_rfl) Pm.hrun (by kernel_rfl) (by kernel_rfl) (by kernel_rfl) (by rfl) (by first | assumption | decide +kernel) (by decide +kernel) ⟨rfl, rfl, rfl, rfl, rfl, by decide +kernel⟩ ?hw ?hc
  case hw => w_witness2
  case hc =>
    refine Pm.walk_ofW (l := PySem.Challenge.rw_permsplits_k07_whole_raised) (n := 63) (k := 6) (x := "script") (CX := L2.CX (PySem.Challenge.rw_permsplits_k07_whole_raised).prog) rfl (by decide) (by kernel_rfl) ⟨rfl, by decide, by decide⟩ ?F ?X
    · intro w mg fa h Y G hmg0
      obtain ⟨K, KX, c⟩ := Y
      have hmg : mg ("law" : PySem.Str) = some (.ref fa) := by
        have e : (HandSHeadRun.topDef (OpenLaw.row PySem.Challenge.rw_permsplits_k07_whole_raised).prog 26).name = ("law" : PySem.Str) := by kernel_rfl
        rw [← e]
        exact hmg0
      obtain ⟨fd, hb, hF⟩ := Pm.facts (P := (PySem.Challenge.rw_permsplits_k07_whole_raised).prog) (w := w) KX G hmg c
      exact ⟨K, fd, Pm.spLaw K, KX, hb, fun H a ns hl _ hS => ⟨a, ns, rfl, hS, hl, fun _ => rfl⟩, hF⟩
    · intro w H s e s' z
      obtain ⟨_, _, _, _, _, _, _, _, _, _, _, _, z⟩ := z
      exact z

