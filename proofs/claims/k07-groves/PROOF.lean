import PyProof.Rows.All
import Wide.All
import OpenK.AllK
import Wide.FinOn
import HandS.ForMost
import HandS.ForExc
import HandS.Codes
import HandS.IsInst
import HandS.Defaults
import HandS.StrMore
import HandS.RevRange
import HandS.Style
import HandS.Flow
import HandS.Evl
import HandS.TupAny
import HandS.Head0
import HandS.Head1
import HandS.Head2
import HandS.HeadEnd
import HandS.HeadHook1
import HandS.HeadHook2
import HandS.HeadHook3
import HandS.HeadHook4
import HandS.HeadWalk
import HandS.Walk
import HandS.ExcIs
import HandS.RevTup
import HandS.TupSets
import KE.KExcIs
import HandS.ExcInit
import HandS.ExcField
import PySem.Challenge.RW_hillrows_k07_groves
set_option Elab.async false
set_option linter.all false
set_option maxRecDepth 100000
set_option maxHeartbeats 4000000
/-! The layer's own additions for this program: callable defs, constants, classes of refusals. -/
namespace Hl
open PySem PySem.Spec PyProof.Rows L2 Evl
/-- a def that may be called by its name x: its level, its promise, the defaults that fill up -/
structure Cal (P : Program) (w : World) (K : PySem.W.Frag) (mg : Str → Option Value) (base : Heap) (k : Nat) (x : Str) (sp : Sp) (dvs : List V) : Prop where
  ex : ∃ (f : Addr) (fd : FuncData) (ps : List Str) (ds : List Value), FnOk P w K mg base (L2.CX P w) k f fd ps sp ∧ mg x = some (.ref f) ∧ PySem.W.keepIn K (.ref f) = true ∧ Binds K fd ps ds ∧ Vals dvs ds
section
variable {X : Cx} {j k : Nat} {x : Str} {sp : Sp} {dvs : List V} {E : XK} {p pos : Pos} {e : Expr} {es : List Expr} {t : TA}
theorem pe_cal (c : Cal X.prog X.w X.K X.mg X.base k x sp dvs) (hr : Room j X.A) (hk : k ≤ j) (hg : Gl X x) (hx : Passes (L2.CX X.prog X.w) X E) (ha : PA X (e :: es) t) (hdb : (x == ("__debug__" : Str)) = false := by decide)
    (he : starEach (e :: es) X.env = (false, eval e X.env) :: starEach es X.env := by rfl) (hpl : (backTo pos (starEach es X.env)).any (·.1) = false := by rfl) :
    PE X (.Call (.Name x p) (e :: es) [] pos) (tCall sp dvs E t) := by
  obtain ⟨f, fd, ps, ds, F, hm, kp, b, d⟩ := c.ex
  exact pe_call F (hr.mono hk) hg hm kp b d hx ha hdb he hpl
/-- in a try's body: what it wishes may speak of the slots -/
theorem run_fnD {CX : CXT} {f : Addr} {fd : FuncData} {ps : List Str} {ds : List Value} {E : L2.St → XK} {pins : List (Addr × Obj)} {σ : L2.St} {H : Hp} {s : Shared} {Q : VK} {us : List Value} {vs : List V} (F : FnOk X.prog X.w X.K X.mg X.base CX k f fd ps sp) (hr : Room k X.A) (hb : Binds X.K fd ps ds) (hd : Vals dvs ds) (hx : PassesAt CX X σ (E σ))
    (I : Inv X pins σ H s) (r : Vals vs us) (h : sp (vs ++ dvs) H Q (E σ)) : wpAny (model X.prog X.w) X.A (call (.ref f) us) (EP X pins σ Q) X.xe s := by
  have r2 : Vals (vs ++ dvs) (us ++ ds) := r.append hd
  have hl : (us ++ ds).length = ps.length := by rw [← r2.length]; exact F.len _ _ _ _ h
  refine wpAny_call (codeAny_mono (F.run X.A X.stack s H ⟨us, []⟩ (us ++ ds) (vs ++ dvs) Q (E σ) hr I.env0 (hb s us I.kIn hl) r2 h) fun r s' hq => ?_)
  cases r with
  | error e => exact hx pins H s e s' I hq
  | ok fl =>
    cases fl with
    | ret u => exact I.after hq
    | next => exact False.elim hq
    | brk => exact False.elim hq
    | cont => exact False.elim hq
def tCallD (sp : Sp) (dvs : List V) (E : L2.St → XK) (t : TA) : TE := fun σ H Q => t σ H fun vs H1 => sp (vs ++ dvs) H1 Q (E σ)
theorem pe_calS {E : L2.St → XK} (c : Cal X.prog X.w X.K X.mg X.base k x sp dvs) (hr : Room j X.A) (hk : k ≤ j) (hg : Gl X x) (hx : ∀ σ, PassesAt (L2.CX X.prog X.w) X σ (E σ)) (ha : PA X (e :: es) t) (hdb : (x == ("__debug__" : Str)) = false := by decide)
    (he : starEach (e :: es) X.env = (false, eval e X.env) :: starEach es X.env := by rfl) (hpl : (backTo pos (starEach es X.env)).any (·.1) = false := by rfl) :
    PE X (.Call (.Name x p) (e :: es) [] pos) (tCallD sp dvs E t) := by
  obtain ⟨f, fd, ps, ds, F, hm, kp, b, d⟩ := c.ex
  refine ⟨fun pins s σ H Q I h => ?_⟩
  refine wpAny_Call_Name_kw (ld_glob I hg hm ?_ hdb)
  refine PySem.W.callWith_K (h₀ := X.base) I.ok.mod.kin kp (thn (ha.run pos pins s σ H _ I h) fun us s1 ⟨vs, H1, I1, r, q⟩ => ⟨I1.kIn, ?_⟩) he hpl
  exact run_fnD F (hr.mono hk) b d (hx σ) I1 r q
/-- a module's constant -/
def Cst (mg : Str → Option Value) (x : Str) (v : V) : Prop := ∃ u, mg x = some u ∧ RelV v u
theorem pe_cst {v : V} (hg : Gl X x) (h : Cst X.mg x v) (hd : (x == ("__debug__" : Str)) = false := by decide) : PE X (.Name x pos) (tC v) := by
  obtain ⟨u, hm, r⟩ := h
  exact pe_glob hg hm r hd
/-- a class of refusals: raised by its name with a text -/
structure Exc (K : PySem.W.Frag) (mg : Str → Option Value) (x : Str) (C : Addr) : Prop where
  g : mg x = some (.ref C)
  q : PySem.W.excIn K C He.veBase "ValueError.__new__" = true
  k : PySem.W.keepIn K (.ref C) = true
  s : PySem.W.subIn K (.ref C) (.type "BaseException") = some true
  t : PySem.W.typeIn K (.ref C) = some (.type "type")
theorem Exc.mk' {C : Addr} {m : Str} {jn : Nat} {p2 : Pos} (T : Exc X.K X.mg x C) (hg : Gl X x := by rfl) (hdb : (x == ("__debug__" : Str)) = false := by decide) : PMk X (.Call (.Name x p) [.Constant (.str m) jn p2] [] pos) (fun _ H Q => Q (.ref C) none H) :=
  pmk_own PySem.F.excBase_ValueError T.q T.g T.k (raises_own T.s T.t) hg hdb
end
/-- no exception is let out of a comprehension, nor wished for -/
theorem passX0 {X : Cx} : Passes (L2.CX X.prog X.w) X E0 := passL
end Hl
namespace Hl
open PySem PySem.Spec PyProof.Rows L2 Evl
section
variable {P : Program} {w : World} {K : PySem.W.Frag} {mg : Str → Option Value} {base : Heap} {N : List Str} {qual : Str} {sc : Scope} {f : Addr} {cd : Value} {A : Around} {outer : List Env} {s : Shared} {H : Hp} {E : XK}
theorem tkOf : Takes (cxOf (L2.CX P w) P w K mg base N qual sc f cd A outer s H E) (fun cls d _ H => E cls d H) := takes_of rfl rfl rfl rfl
theorem hxOf : Passes (L2.CX (cxOf (L2.CX P w) P w K mg base N qual sc f cd A outer s H E).prog (cxOf (L2.CX P w) P w K mg base N qual sc f cd A outer s H E).w) (cxOf (L2.CX P w) P w K mg base N qual sc f cd A outer s H E) E := passes_call tkOf (fun _ _ _ _ h => h)
theorem hpOf : PassesOwn (model (cxOf (L2.CX P w) P w K mg base N qual sc f cd A outer s H E).prog (cxOf (L2.CX P w) P w K mg base N qual sc f cd A outer s H E).w) (cxOf (L2.CX P w) P w K mg base N qual sc f cd A outer s H E).A (cxOf (L2.CX P w) P w K mg base N qual sc f cd A outer s H E).env (cxOf (L2.CX P w) P w K mg base N qual sc f cd A outer s H E).xe := passes_of rfl
end
/-- a def of the text -/
abbrev FnP (K : PySem.W.Frag) (x : Str) (st : Stmt) (dvs : List V) (f : Addr) (fd : FuncData) : Prop := FunD K x x (defArgs st) (defBody st) (defScope st) dvs [] f fd
/-- the built-in names that the module leaves free -/
structure Blt (mg : Str → Option Value) : Prop where
  len : mg "len" = none
  min : mg "min" = none
  max : mg "max" = none
  sum : mg "sum" = none
  sorted : mg "sorted" = none
  isinstance : mg "isinstance" = none
  int : mg "int" = none
  bool : mg "bool" = none
  str : mg "str" = none
  list : mg "list" = none
  tuple : mg "tuple" = none
  set : mg "set" = none
  range : mg "range" = none
  enumerate : mg "enumerate" = none
  zip : mg "zip" = none
  reversed : mg "reversed" = none
  ValueError : mg "ValueError" = none
/-- what an expression gives: P of the value and the heap behind it -/
def EvG (te : TE) (σ : L2.St) (H : Hp) (P : V → Hp → Prop) : Prop := ∀ H1, Ex H H1 → ∀ Q : VK, (∀ v H2, Ex H1 H2 → P v H2 → Q v H2) → te σ H1 Q
def rg (P : V → Hp → Prop) (H : Hp) (Q : VK) : Prop := ∀ v H', Ex H H' → P v H' → Q v H'
def SpG (sp : Sp) (vs : List V) (H : Hp) (P : V → Hp → Prop) : Prop := ∀ H1, Ex H H1 → ∀ Q : VK, rg P H1 Q → ∀ E : XK, sp vs H1 Q E
/-- a refusal of the class at C -/
def rx (C : Addr) (H : Hp) (E : XK) : Prop := ∀ H', Ex H H' → E (.ref C) none H'
section
variable {sp : Sp} {dvs : List V} {E : XK} {ta : TA} {te : TE} {σ : L2.St} {H H' : Hp} {vs : List V} {v : V} {xs : List V} {P : V → Hp → Prop} {D : Ends} {tz : TS}
theorem EvG.mono (e : Ex H H') (h : EvG te σ H P) : EvG te σ H' P := fun H1 a Q q => h H1 (e.trans a) Q q
theorem eg_call (h : EvA ta σ H vs) (hs : SpG sp (vs ++ dvs) H P) : EvG (tCall sp dvs E ta) σ H P := fun H1 e Q q =>
  h H1 e _ fun H2 e2 => hs H2 (e.trans e2) Q (fun v H3 e3 h3 => q v H3 (e2.trans e3) h3) E
theorem s_asgG {i : Nat} (h : EvG te σ H P) (k : ∀ v H1, Ex H H1 → P v H1 → D.nx (σ.set i (some v)) H1) : tAsg te (gName i) D σ H := h H (Ex.refl H) _ fun v H1 e p => k v H1 e p
theorem q_asgG {i : Nat} (h : EvG te σ H P) (k : ∀ v H1, Ex H H1 → P v H1 → tz D (σ.set i (some v)) H1) : tSeq (tAsg te (gName i)) tz D σ H := s_asgG (D := { D with nx := tz D }) h k
theorem s_retG (h : EvG te σ H P) (k : ∀ v H1, Ex H H1 → P v H1 → D.rt v H1) : tRet te D σ H := h H (Ex.refl H) _ k
theorem Ev.ret (h : Ev te σ H v) {Q : VK} (q : RetV v H Q) : te σ H Q := h H (Ex.refl H) Q q
/-- an argument list whose first item is such a thing -/
theorem ev_call1 {sp : Sp} {z : V} {t1 : TE} {t2 : TA} (h1 : EvG t1 σ H P) (h2 : EvA t2 σ H vs) (hs : ∀ v H1, Ex H H1 → P v H1 → SpV sp (v :: (vs ++ dvs)) H1 z) : Ev (tCall sp dvs E (tCons t1 t2)) σ H z := fun H1 e Q q =>
  h1 H1 e _ fun v H2 e2 p => h2 H2 (e.trans e2) _ fun H3 e3 => hs v H2 (e.trans e2) p H3 e3 Q (fun H4 e4 => q H4 ((e2.trans e3).trans e4)) E
/-- a chain of two comparisons of whole numbers -/
theorem ev_chain {r r' : R2} {ta tb tc : TE} {x y z : V} {a b : Bool} (h1 : Ev ta σ H x) (h2 : Ev tb σ H y) (hr : RV r x y H (.bl a)) (h3 : Ev tc σ H z) (hr' : RV r' y z H (.bl b)) : Ev (tChain r r' ta tb tc) σ H (.bl (a && b)) := fun H1 e Q q =>
  h1 H1 e _ fun H2 e2 => h2 H2 (e.trans e2) _ fun H3 e3 => hr H3 ((e.trans e2).trans e3) _ fun H4 e4 => ⟨a, rfl, by
    have eE := ((e.trans e2).trans e3).trans e4
    have eR := (e2.trans e3).trans e4
    cases a with
    | true =>
      rw [if_pos rfl]
      exact h3 H4 eE _ fun H5 e5 => hr' H5 (eE.trans e5) Q fun H6 e6 => q H6 ((eR.trans e5).trans e6)
    | false =>
      rw [if_neg Bool.false_ne_true]
      exact q H4 eR⟩
theorem et_val {b : Bool} (h : Ev te σ H (.bl b)) : EvT (tB te) σ H b := et_B h
end
end Hl
/-! ### lists made of lists -/
namespace Hl
open PySem PySem.Spec PyProof.Rows L2 Evl
section
variable {K : PySem.W.Frag} {σ : L2.St} {H H' : Hp} {ta tb te : TE} {xs ys : List V} {D : Ends} {tz : TS}
theorem el_cat (ha : EvL ta σ H xs) (hb : EvL tb σ H ys) (hz : xs.length + ys.length ≤ 100000) : EvL (tOp rCat ta tb) σ H (xs ++ ys) := fun H1 e Q q =>
  ha H1 e _ fun a H2 na e2 h2 => hb H2 (e.trans e2) _ fun b H3 nb e3 h3 => ⟨a, b, xs, ys, rfl, rfl, e3 a _ h2, h3, sz_of hz, fun p np => q p _ (fresh_back (e2.trans e3) np) ((e2.trans e3).trans (Ex.new np)) upd_same⟩
/-- the left one stands, the right one is new -/
theorem el_catV {a : Addr} (ha : Ev ta σ H (.ref a)) (h : H a = some (.lst xs)) (hb : EvL tb σ H ys) (hz : xs.length + ys.length ≤ 100000) : EvL (tOp rCat ta tb) σ H (xs ++ ys) := fun H1 e Q q =>
  ha H1 e _ fun H2 e2 => hb H2 (e.trans e2) _ fun b H3 nb e3 h3 => ⟨a, b, xs, ys, rfl, rfl, ((e.trans e2).trans e3) a _ h, h3, sz_of hz, fun p np => q p _ (fresh_back (e2.trans e3) np) ((e2.trans e3).trans (Ex.new np)) upd_same⟩
/-- the left one is new, the right one stands -/
theorem el_catW {b : Addr} (ha : EvL ta σ H xs) (hb : ∀ H1, Ex H H1 → Ev tb σ H1 (.ref b)) (h : H b = some (.lst ys)) (hz : xs.length + ys.length ≤ 100000) : EvL (tOp rCat ta tb) σ H (xs ++ ys) := fun H1 e Q q =>
  ha H1 e _ fun a H2 na e2 h2 => hb H2 (e.trans e2) H2 (Ex.refl H2) _ fun H3 e3 => ⟨a, b, xs, ys, rfl, rfl, e3 a _ h2, ((e.trans e2).trans e3) b _ h, sz_of hz, fun p np => q p _ (fresh_back (e2.trans e3) np) ((e2.trans e3).trans (Ex.new np)) upd_same⟩
theorem el_rep {k : Int} (ha : EvL ta σ H xs) (hb : Ev tb σ H (.int k)) (h0 : 0 ≤ k ∧ k ≤ 100000) (hz : xs.length * k.toNat ≤ 100000) : EvL (tOp rRep ta tb) σ H (List.replicate k.toNat xs).flatten := fun H1 e Q q =>
  ha H1 e _ fun a H2 na e2 h2 => hb H2 (e.trans e2) _ fun H3 e3 => ⟨a, k, xs, rfl, rfl, e3 a _ h2, by omega, by omega, sz_of hz, fun p np => q p _ (fresh_back (e2.trans e3) np) ((e2.trans e3).trans (Ex.new np)) upd_same⟩
theorem el_is {zs : List V} (h : EvL te σ H xs) (e : xs = zs) : EvL te σ H zs := by
  rw [← e]
  exact h
/-- x = [a new list] -/
theorem q_asgLL {i : Nat} (h : EvL te σ H xs) (k : ∀ a p H1, H a = none → H p = none → a ≠ p → Ex H H1 → H1 a = some (.lst xs) → H1 p = some (.lst [.ref a]) → tz D (σ.set i (some (.ref p))) H1) : tSeq (tAsg (tLst (tCons te tNil)) (gName i)) tz D σ H := by
  refine h H (Ex.refl H) _ fun a H1 na e1 h1 => ?_
  refine ⟨by show 1 ≤ sizeLine; decide, fun p np => ?_⟩
  exact k a p _ na (fresh_back e1 np) (ne_of_none h1 np) (e1.trans (Ex.new np)) (Ex.new np a _ h1) upd_same
theorem q_asgLU {i : Nat} (h : EvU te σ H xs) (k : ∀ a p H1, H a = none → H p = none → a ≠ p → Ex H H1 → H1 a = some (.tup xs) → H1 p = some (.lst [.ref a]) → tz D (σ.set i (some (.ref p))) H1) : tSeq (tAsg (tLst (tCons te tNil)) (gName i)) tz D σ H := by
  refine h H (Ex.refl H) _ fun a H1 na e1 h1 => ?_
  refine ⟨by show 1 ≤ sizeLine; decide, fun p np => ?_⟩
  exact k a p _ na (fresh_back e1 np) (ne_of_none h1 np) (e1.trans (Ex.new np)) (Ex.new np a _ h1) upd_same
theorem neg_one_at {as : List V} {i : Nat} {v : V} (h : as.length = i + 1) (hv : as[i]? = some v) : atI as (-1) = some v := by
  have h1 : atI as (-1) = (ixN as.length (-1)).bind fun j => as[j]? := rfl
  rw [h1, h]
  have h2 : ixN (i + 1) (-1) = some i := by
    unfold ixN
    rw [if_neg (by decide), if_pos (by omega)]
    congr 1
    omega
  rw [h2]
  exact hv
theorem map_int_get {ns : List Int} {i : Nat} {z : Int} (h : ns[i]? = some z) : (ns.map V.int)[i]? = some (.int z) := by
  rw [List.getElem?_map, h]
  rfl
theorem at_int {ns : List Int} {i : Nat} {z y : Int} (e : y = (i : Int)) (h : ns[i]? = some z) : atI (ns.map V.int) y = some (.int z) := at_of e (map_int_get h)
theorem at_ref {as : List Addr} {i : Nat} {a : Addr} {y : Int} (e : y = (i : Int)) (h : as[i]? = some a) : atI (as.map V.ref) y = some (.ref a) := at_of e (by rw [List.getElem?_map, h]; rfl)
end
end Hl
/-! ### the texts of rows -/
namespace Hl
open PySem PySem.Spec PyProof.Rows L2 Evl
def sg (b : Bool) : Nat := if b = true then 117 else 100
/-- a row's text -/
def rowS (w : List Bool) : Str := SX.S (w.map sg)
theorem rowS_len (w : List Bool) : (rowS w).length = w.length := by unfold rowS; rw [SX.S_len, List.length_map]
theorem rowS_cat (a b : List Bool) : rowS a ++ rowS b = rowS (a ++ b) := by unfold rowS; rw [SX.S_cat, List.map_append]
theorem sg_inj {a b : Bool} (h : sg a = sg b) : a = b := by
  cases a <;> cases b <;> first | rfl | cases h
theorem map_sg_inj : ∀ {a b : List Bool}, a.map sg = b.map sg → a = b
  | [], [], _ => rfl
  | [], _ :: _, h => by cases h
  | _ :: _, [], h => by cases h
  | x :: a, y :: b, h => by
    rw [List.map_cons, List.map_cons] at h
    injection h with h1 h2
    rw [sg_inj h1, map_sg_inj h2]
theorem rowS_inj {a b : List Bool} (h : rowS a = rowS b) : a = b := map_sg_inj (SX.S_inj h)
theorem lit_u : ("u" : Str) = rowS [true] := by decide +kernel
theorem lit_d : ("d" : Str) = rowS [false] := by decide +kernel
theorem lit_e : ("" : Str) = rowS [] := by decide +kernel
theorem row_u (w : List Bool) : rowS w ++ ("u" : Str) = rowS (w ++ [true]) := by rw [lit_u, rowS_cat]
theorem row_d (w : List Bool) : rowS w ++ ("d" : Str) = rowS (w ++ [false]) := by rw [lit_d, rowS_cat]
theorem len_u : ("u" : Str).length = 1 := by decide +kernel
theorem len_d : ("d" : Str).length = 1 := by decide +kernel
theorem rv_add {i j : Str} {H : Hp} (h : i.length + j.length ≤ 100000) : RV (fun x y H Q => ∃ i j, x = .str i ∧ y = .str j ∧ i.length + j.length ≤ sizeLine ∧ Q (.str (i ++ j)) H) (.str i) (.str j) H (.str (i ++ j)) := fun H1 _ Q q => ⟨i, j, rfl, rfl, sz_of h, q H1 (Ex.refl H1)⟩
theorem ev_rowU {σ : L2.St} {H : Hp} {ta tb : TE} {w : List Bool} (h1 : Ev ta σ H (.str (rowS w))) (h2 : Ev tb σ H (.str "u")) (hl : w.length ≤ 90000) : Ev (tOp (fun x y H Q => ∃ i j, x = .str i ∧ y = .str j ∧ i.length + j.length ≤ sizeLine ∧ Q (.str (i ++ j)) H) ta tb) σ H (.str (rowS (w ++ [true]))) := by
  rw [← row_u]
  exact ev_op h1 h2 (rv_add (by rw [rowS_len, len_u]; omega))
theorem ev_rowD {σ : L2.St} {H : Hp} {ta tb : TE} {w : List Bool} (h1 : Ev ta σ H (.str (rowS w))) (h2 : Ev tb σ H (.str "d")) (hl : w.length ≤ 90000) : Ev (tOp (fun x y H Q => ∃ i j, x = .str i ∧ y = .str j ∧ i.length + j.length ≤ sizeLine ∧ Q (.str (i ++ j)) H) ta tb) σ H (.str (rowS (w ++ [false]))) := by
  rw [← row_d]
  exact ev_op h1 h2 (rv_add (by rw [rowS_len, len_d]; omega))
/-- two lists side by side -/
theorem paired_get {α β : Type} {F : α → β → Prop} : ∀ {as : List α} {bs : List β} {i : Nat} {a : α}, Paired F as bs → as[i]? = some a → ∃ b, bs[i]? = some b ∧ F a b
  | _, _, _, _, .nil, h => by simp at h
  | _, _, 0, _, .cons r _, h => by simp at h; subst h; exact ⟨_, rfl, r⟩
  | _, _, i + 1, a, .cons _ t, h => by
    obtain ⟨b, h1, h2⟩ := paired_get (i := i) (a := a) t (by simpa using h)
    exact ⟨b, by simpa using h1, h2⟩
theorem paired_app {α β : Type} {F : α → β → Prop} : ∀ {as : List α} {bs : List β} {cs : List α} {ds : List β}, Paired F as bs → Paired F cs ds → Paired F (as ++ cs) (bs ++ ds)
  | _, _, _, _, .nil, s => s
  | _, _, _, _, .cons r t, s => .cons r (paired_app t s)
theorem paired_one {α β : Type} {F : α → β → Prop} {a : α} {b : β} (h : F a b) : Paired F [a] [b] := .cons h .nil
theorem paired_mono {α β : Type} {F G : α → β → Prop} (h : ∀ a b, F a b → G a b) : ∀ {as : List α} {bs : List β}, Paired F as bs → Paired G as bs
  | _, _, .nil => .nil
  | _, _, .cons r t => .cons (h _ _ r) (paired_mono h t)
theorem paired_len {α β : Type} {F : α → β → Prop} {as : List α} {bs : List β} (h : Paired F as bs) : as.length = bs.length := Paired.length h
theorem take_snoc {α : Type} {l : List α} {i : Nat} {x : α} (h : l[i]? = some x) : l.take (i + 1) = l.take i ++ [x] := by
  rw [List.take_add_one, h]
  rfl
theorem given_filter {α : Type} (l : List α) (p : α → Bool) (g : α → V) (f : Nat → Bool) (v : Nat → V) (h : ∀ i x, l[i]? = some x → f i = p x ∧ v i = g x) : given l.length f v = (l.filter p).map g := by
  have key : ∀ n, n ≤ l.length → given n f v = ((l.take n).filter p).map g := by
    intro n
    induction n with
    | zero => intro _; rfl
    | succ n ih =>
      intro hn
      have hx : l[n]? = some l[n] := List.getElem?_eq_getElem (by omega)
      obtain ⟨h1, h2⟩ := h n _ hx
      rw [take_snoc hx, List.filter_append, List.map_append, ← ih (by omega)]
      cases hf : f n with
      | true =>
        rw [given_yes hf, h2, List.filter_cons, if_pos (by rw [← h1]; exact hf)]
        rfl
      | false =>
        rw [given_no hf, List.filter_cons, if_neg (by rw [← h1, hf]; decide)]
        simp
  rw [key l.length (Nat.le_refl _), List.take_length]
theorem given_all {α : Type} (l : List α) (g : α → V) (v : Nat → V) (h : ∀ i x, l[i]? = some x → v i = g x) : given l.length (fun _ => true) v = l.map g := by
  rw [given_filter l (fun _ => true) g (fun _ => true) v fun i x hx => ⟨rfl, h i x hx⟩, List.filter_eq_self.mpr fun _ _ => rfl]
end Hl
/-! ### lists of numbers cut -/
namespace Hl
open PySem PySem.Spec PyProof.Rows L2 Evl
theorem cut_map (ns : List Int) (lo hi : Option Int) : ∃ ms : List Int, cutV (ns.map V.int) lo hi = ms.map V.int ∧ ms.length ≤ ns.length ∧ (lo = none → ∀ j : Nat, hi = some (j : Int) → ms = ns.take j) := by
  refine ⟨(ns.drop (HT.sIx ns.length 0 lo)).take (HT.sIx ns.length ns.length hi - HT.sIx ns.length 0 lo), ?_, ?_, ?_⟩
  · unfold cutV
    rw [List.length_map, List.map_take, List.map_drop]
  · rw [List.length_take, List.length_drop]
    omega
  · rintro rfl j rfl
    rw [HT.sIx_none, show HT.sIx ns.length ns.length (some (j : Int)) = min j ns.length from HT.sIx_nat _ _ _]
    simp
theorem int_at {ms : List Int} {i : Nat} {x : V} (h : (ms.map V.int)[i]? = some x) : ∃ z, ms[i]? = some z ∧ x = .int z := by
  rw [List.getElem?_map] at h
  cases e : ms[i]? with
  | none => rw [e] at h; cases h
  | some z => rw [e] at h; exact ⟨z, rfl, (Option.some.inj h).symm⟩
/-- an item of a list that is made on the way -/
theorem ev_pick {K : PySem.W.Frag} {σ : L2.St} {H : Hp} {ta tb : TE} {xs : List V} {i : Int} {v : V} (ha : EvL ta σ H xs) (hb : Ev tb σ H (.int i)) (hv : atI xs i = some v) : Ev (tOp (rIxL K) ta tb) σ H v :=
  ev_opL1 ha (fun H1 e => hb.mono e) fun p H1 hp _ => rv_ixL (sq_of hp) hv
theorem pick2 {x y : V} {i : Int} (h0 : 0 ≤ i) (h2 : i < 2) : atI [x, y] i = some (if i = 0 then x else y) := by
  rcases (show i = 0 ∨ i = 1 by omega) with rfl | rfl
  · rfl
  · rfl
end Hl
/-! ### the end's pieces -/
namespace Hl
open PySem PySem.Spec PyProof.Rows L2 Evl
section
variable {P : Program} {w : World} {K : PySem.W.Frag} {mg : Str → Option Value} {base : Heap} {f : Addr} {fd : FuncData} {k : Nat} {ps : List Str} {sp : Sp} {x : Str} {h : Heap}
/-- a def whose promise does not hang on what is wished of exceptions lets none out -/
theorem noX (F : FnOk P w K mg base (L2.CX P w) k f fd ps sp) (hs : ∀ vs H Q E, sp vs H Q E → sp vs H Q E0) : FnOk P w K mg base CX0 k f fd ps sp := by
  refine ⟨F.len, fun A outer s H args us vs Q E hr he hb hv h => ?_⟩
  refine codeAny_mono (F.run A outer s H args us vs Q E0 hr he hb hv (hs _ _ _ _ h)) fun r s' hq => ?_
  cases r with
  | error e =>
    obtain ⟨_, _, _, _, _, _, _, _, _, _, _, _, z⟩ := hq
    exact z.elim
  | ok fl =>
    cases fl with
    | ret u => exact hq
    | next => exact hq
    | brk => exact hq
    | cont => exact hq
theorem cal_of (F : FnOk P w K mg base (L2.CX P w) k f fd ps sp) (hm : mg x = some (.ref f)) (kp : PySem.W.keepIn K (.ref f) = true) (b : Binds K fd ps []) : Cal P w K mg base k x sp [] := ⟨f, fd, ps, [], F, hm, kp, b, .nil⟩
theorem cal_d {dv : List V} (F : FnOk P w K mg base (L2.CX P w) k f fd ps sp) (hm : mg x = some (.ref f)) (kp : PySem.W.keepIn K (.ref f) = true) (b : ∃ ds, Vals dv ds ∧ Binds K fd ps ds) : Cal P w K mg base k x sp dv := by
  obtain ⟨ds, r, b⟩ := b
  exact ⟨f, fd, ps, ds, F, hm, kp, b, r⟩
theorem binds_nil {K : PySem.W.Frag} {fd : FuncData} {ps : List Str} (b : ∃ ds, Vals [] ds ∧ Binds K fd ps ds) : Binds K fd ps [] := by
  obtain ⟨ds, r, b⟩ := b
  cases r
  exact b
theorem cst_int (X : K.In h) (G : h.Ns mainGlobals mg) {i : Int} (c : (He.Fa.int x i).ok K = true) : Cst mg x (.int i) := by
  obtain ⟨t, e⟩ := He.int_ok X G c
  exact ⟨_, e, t, rfl⟩
theorem exc_of (X : K.In h) (G : h.Ns mainGlobals mg) (c : (He.Fa.exc x).ok K = true) (g : (He.Fa.glo x).ok K = true) : Exc K mg x (He.ga K x) := by
  obtain ⟨h1, h2⟩ := He.ba (show (PySem.W.excIn K (He.ga K x) He.veBase "ValueError.__new__" && (PySem.W.keepIn K (.ref (He.ga K x)) && (decide (PySem.W.subIn K (.ref (He.ga K x)) (.type "BaseException") = some true) && decide (PySem.W.typeIn K (.ref (He.ga K x)) = some (.type "type"))))) = true from c)
  obtain ⟨h3, h4⟩ := He.ba h2
  obtain ⟨h5, h6⟩ := He.ba h4
  exact ⟨He.glo_ok X G g, h1, h3, of_decide_eq_true h5, of_decide_eq_true h6⟩
end
end Hl
/-! Loops and comprehensions over anything that is walked, over readings that leave what is known. -/
namespace Hl
open PySem PySem.Spec PyProof.Rows L2 Evl
/-- an iterable's reading: the walk that comes and the heap behind it -/
def EvI (wi : TI) (σ : L2.St) (H : Hp) (PJ : It → Hp → Prop) : Prop := ∀ H1, Ex H H1 → ∀ R : It → Hp → Prop, (∀ J H2, Ex H1 H2 → PJ J H2 → R J H2) → wi σ H1 R
/-- n turns, as long as the heap grows only -/
def WalkX (n : Nat) (Y : Nat → Hp → V → Hp → Prop) : It → Hp → Prop := fun J H => ∃ G : Hp → Prop, Walk J n G Y ∧ G H ∧ ∀ H H', G H → Ex H H' → G H'
section
variable {K : PySem.W.Frag} {σ : L2.St} {H H' : Hp} {tl tl2 te : TE} {tt : TT} {wi : TI} {g : TG} {vs : List Nat} {n : Nat} {Y : Nat → Hp → V → Hp → Prop} {xs ys : List V} {D : Ends} {tu tz : TS}
theorem el_lcW (f : Nat → Bool) (v : Nat → V) (hi : EvI wi σ H (WalkX n Y)) (hn : n < 50000)
    (hs : ∀ i Hi x H', i < n → Ex H Hi → Y i Hi x H' → Ex Hi H' ∧ ∃ σ2, (∀ Q : L2.St → Hp → Prop, Q σ2 H' → g x (wipe σ vs) H' Q) ∧ wipe σ2 vs = wipe σ vs ∧ EvT tt σ2 H' (f i) ∧ (f i = true → Ev te σ2 H' (v i))) :
    EvL (tLc wi g tt te vs) σ H (given n f v) := fun H0 e Q q => hi H0 e _ fun J H1 e1 ⟨G, w, g1, gm⟩ Dl hD =>
  lc_it w (fun i H' => Cw H1 f v Dl i H' ∧ G H') ⟨⟨hD, Ex.new hD, upd_same⟩, gm _ _ g1 (Ex.new hD)⟩ (fun i H' _ p => p.2) (fun i x Hi H' hin p y => by
    obtain ⟨⟨p1, p2, p3⟩, pg⟩ := p
    obtain ⟨eY, σ2, hg, hw, ht, he⟩ := hs i Hi x H' hin ((e.trans e1).trans p2) y
    refine hg _ ⟨hw, ?_⟩
    refine ht H' (Ex.refl H') _ fun H3 e3 => ?_
    cases hf : f i with
    | true =>
      show te σ2 H3 _
      refine he hf H3 e3 _ fun H4 e4 => ⟨given i f v, e4 Dl _ (e3 Dl _ (eY Dl _ p3)), sz_lt (by have := given_len i f v; omega), ⟨p1, Ex.mut (((p2.trans eY).trans e3).trans e4) p1, ?_⟩, ?_⟩
      · rw [given_yes hf]
        exact upd_same
      · -- G survives: the list at Dl is not read by the walk
        exact gm _ _ g1 (Ex.mut (((p2.trans eY).trans e3).trans e4) p1)
    | false =>
      show _ ∧ G H3
      refine ⟨⟨p1, (p2.trans eY).trans e3, ?_⟩, gm _ _ pg (eY.trans e3)⟩
      rw [given_no hf]
      exact e3 Dl _ (eY Dl _ p3)) (fun H' p => q Dl H' (fresh_back e1 p.1.1) (e1.trans p.1.2.1) p.1.2.2)
/-! iterables -/
theorem ei_list {a : Addr} (h : Ev tl σ H (.ref a)) (hx : SqL K H a xs) : EvI (iList K tl) σ H (WalkX xs.length (YAt xs)) := fun H1 e R r =>
  h H1 e _ fun H2 e2 => ⟨a, rfl, ⟨xs, ex_l (e.trans e2) hx⟩, r _ H2 e2 ⟨_, walk_list, ex_l (e.trans e2) hx, fun _ _ q k => ex_l k q⟩⟩
theorem ei_listN (h : EvL tl σ H xs) : EvI (iList K tl) σ H (WalkX xs.length (YAt xs)) := fun H1 e R r =>
  h H1 e _ fun p H2 _ e2 h2 => ⟨p, rfl, ⟨xs, sq_of h2⟩, r _ H2 e2 ⟨_, walk_list, sq_of h2, fun _ _ q k => ex_l k q⟩⟩
theorem ei_tup {a : Addr} (h : Ev tl σ H (.ref a)) (hx : SqT K H a xs) : EvI (iTup K tl) σ H (WalkX xs.length (YAt xs)) := fun H1 e R r =>
  h H1 e _ fun H2 e2 => ⟨a, rfl, ⟨xs, ex_t (e.trans e2) hx⟩, r _ H2 e2 ⟨_, walk_tup, ex_t (e.trans e2) hx, fun _ _ q k => ex_t k q⟩⟩
theorem ei_str {z : Str} (h : Ev tl σ H (.str z)) : EvI (iStr tl) σ H (WalkX z.cps.size (fun i H v H' => H' = H ∧ ∃ c, z.cps[i]? = some c ∧ v = .str ⟨#[c]⟩)) := fun H1 e R r =>
  h H1 e _ fun H2 e2 => ⟨z, rfl, r _ H2 e2 ⟨_, walk_str, trivial, fun _ _ _ _ => trivial⟩⟩
theorem ei_enum {a : Addr} (h : Ev tl σ H (.ref a)) (hx : SqL K H a xs) : EvI (iEnum K (tCons tl tNil)) σ H (WalkX xs.length (YPair (fun i => some (.int (i : Nat))) (fun i => xs[i]?))) := fun H1 e R r =>
  h H1 e _ fun H2 e2 => ⟨a, xs, rfl, ex_l (e.trans e2) hx, r _ H2 e2 ⟨_, walk_enum, ex_l (e.trans e2) hx, fun _ _ q k => ex_l k q⟩⟩
theorem ei_enumN (h : EvL tl σ H xs) : EvI (iEnum K (tCons tl tNil)) σ H (WalkX xs.length (YPair (fun i => some (.int (i : Nat))) (fun i => xs[i]?))) := fun H1 e R r =>
  h H1 e _ fun p H2 _ e2 h2 => ⟨p, xs, rfl, sq_of h2, r _ H2 e2 ⟨_, walk_enum, sq_of h2, fun _ _ q k => ex_l k q⟩⟩
theorem ei_zip {a b : Addr} (h : Ev tl σ H (.ref a)) (hx : SqL K H a xs) (h2 : Ev tl2 σ H (.ref b)) (hy : SqL K H b ys) (hn : n = min xs.length ys.length) : EvI (iZip K (tCons tl (tCons tl2 tNil))) σ H (WalkX n (YPair (fun i => xs[i]?) (fun i => ys[i]?))) := fun H1 e R r =>
  h H1 e _ fun H2 e2 => h2 H2 (e.trans e2) _ fun H3 e3 => ⟨a, b, xs, ys, rfl, ex_l ((e.trans e2).trans e3) hx, ex_l ((e.trans e2).trans e3) hy, r _ H3 (e2.trans e3) ⟨_, walk_zip hn, ⟨ex_l ((e.trans e2).trans e3) hx, ex_l ((e.trans e2).trans e3) hy⟩, fun _ _ q k => ⟨ex_l k q.1, ex_l k q.2⟩⟩⟩
/-- what a pair's target stores -/
theorem g_pair {K : PySem.W.Frag} {i j : Nat} {T : Addr} {x y : V} {Q : L2.St → Hp → Prop} (h : SqT K H T [x, y]) (q : Q ((σ.set i (some x)).set j (some y)) H) : gTup K 2 (gCons (gName i) (gCons (gName j) gNil)) (.ref T) σ H Q :=
  ⟨T, [x, y], rfl, h, rfl, x, [y], rfl, y, [], rfl, rfl, q⟩
/-- a comprehension whose target is a name -/
theorem el_lc1 {Z : Nat → V → Prop} {j : Nat} (f : Nat → Bool) (v : Nat → V) (hi : EvI wi σ H (WalkX n (fun i H x H' => H' = H ∧ Z i x))) (hn : n < 50000) (hw : ∀ x, wipe ((wipe σ vs).set j (some x)) vs = wipe σ vs)
    (hs : ∀ i H1 x, i < n → Ex H H1 → Z i x → EvT tt ((wipe σ vs).set j (some x)) H1 (f i) ∧ (f i = true → Ev te ((wipe σ vs).set j (some x)) H1 (v i))) : EvL (tLc wi (gName j) tt te vs) σ H (given n f v) :=
  el_lcW f v hi hn fun i Hi x H' hin e y => by
    obtain ⟨rfl, z⟩ := y
    obtain ⟨h1, h2⟩ := hs i _ x hin e z
    exact ⟨Ex.refl _, _, fun Q q => q, hw x, h1, h2⟩
/-- .. a pair that is made at each turn -/
theorem el_lc2 {a b : Nat → Option V} {j1 j2 : Nat} (f : Nat → Bool) (v : Nat → V) (hi : EvI wi σ H (WalkX n (YPair a b))) (hn : n < 50000) (hw : ∀ x y, wipe (((wipe σ vs).set j1 (some x)).set j2 (some y)) vs = wipe σ vs)
    (hs : ∀ i H1 x y, i < n → Ex H H1 → a i = some x → b i = some y → EvT tt (((wipe σ vs).set j1 (some x)).set j2 (some y)) H1 (f i) ∧ (f i = true → Ev te (((wipe σ vs).set j1 (some x)).set j2 (some y)) H1 (v i))) :
    EvL (tLc wi (gTup K 2 (gCons (gName j1) (gCons (gName j2) gNil))) tt te vs) σ H (given n f v) :=
  el_lcW f v hi hn fun i Hi x H' hin e y => by
    obtain ⟨T, x1, y1, rfl, nT, rfl, ha, hb⟩ := y
    obtain ⟨h1, h2⟩ := hs i (upd Hi T (.tup [x1, y1])) x1 y1 hin (e.trans (Ex.new nT)) ha hb
    exact ⟨Ex.new nT, _, fun Q q => g_pair (st_of upd_same) q, hw x1 y1, h1, h2⟩
/-- .. over a list of pairs that stand -/
theorem el_lcP {a : Addr} {as : List Addr} {p1 p2 : Nat → V} {j1 j2 : Nat} (f : Nat → Bool) (v : Nat → V) (h : Ev tl σ H (.ref a)) (hx : SqL K H a (as.map V.ref)) (hp : ∀ i b, as[i]? = some b → SqT K H b [p1 i, p2 i]) (hn : as.length < 50000)
    (hw : ∀ x y, wipe (((wipe σ vs).set j1 (some x)).set j2 (some y)) vs = wipe σ vs)
    (hs : ∀ i H1, i < as.length → Ex H H1 → EvT tt (((wipe σ vs).set j1 (some (p1 i))).set j2 (some (p2 i))) H1 (f i) ∧ (f i = true → Ev te (((wipe σ vs).set j1 (some (p1 i))).set j2 (some (p2 i))) H1 (v i))) :
    EvL (tLc (iList K tl) (gTup K 2 (gCons (gName j1) (gCons (gName j2) gNil))) tt te vs) σ H (given as.length f v) := by
  have := el_lcW (g := gTup K 2 (gCons (gName j1) (gCons (gName j2) gNil))) (tt := tt) (te := te) (vs := vs) f v (ei_list h hx) (by simpa using hn) fun i Hi x H' hin e y => by
    obtain ⟨rfl, hy⟩ := y
    simp at hin
    rw [List.getElem?_map] at hy
    obtain ⟨b, hb⟩ : ∃ b, as[i]? = some b := ⟨as[i], by rw [List.getElem?_eq_getElem hin]⟩
    rw [hb] at hy
    cases hy
    obtain ⟨h1, h2⟩ := hs i _ hin e
    exact ⟨Ex.refl _, _, fun Q q => g_pair (ex_t e (hp i b hb)) q, hw _ _, h1, h2⟩
  rw [List.length_map] at this
  exact this
/-! for loops -/
theorem s_forStr {z : Str} {j : Nat} (h : Ev tl σ H (.str z)) (Pv : Nat → L2.St → Hp → Prop) (h0 : ∀ H1, Ex H H1 → Pv 0 σ H1)
    (hs : ∀ i c σ' H', z.cps[i]? = some c → Pv i σ' H' → tu { D with nx := Pv (i + 1), ct := Pv (i + 1), bk := D.nx } (σ'.set j (some (.str ⟨#[c]⟩))) H') (hd : ∀ σ' H', Pv z.cps.size σ' H' → D.nx σ' H') : tFor (iStr tl) (gName j) tu D σ H :=
  h H (Ex.refl H) _ fun H1 e => ⟨z, rfl, for_it walk_str Pv (h0 H1 e) (fun _ _ _ _ _ => trivial) (fun i x σ' H' H2 _ p y => by
    obtain ⟨rfl, c, hc, rfl⟩ := y
    exact hs i c σ' _ hc p) hd⟩
theorem q_forStr {z : Str} {j : Nat} (h : Ev tl σ H (.str z)) (Pv : Nat → L2.St → Hp → Prop) (h0 : ∀ H1, Ex H H1 → Pv 0 σ H1)
    (hs : ∀ i c σ' H', z.cps[i]? = some c → Pv i σ' H' → tu { D with nx := Pv (i + 1), ct := Pv (i + 1), bk := tz D } (σ'.set j (some (.str ⟨#[c]⟩))) H') (hd : ∀ σ' H', Pv z.cps.size σ' H' → tz D σ' H') : tSeq (tFor (iStr tl) (gName j) tu) tz D σ H :=
  s_forStr (D := { D with nx := tz D }) h Pv h0 hs hd
theorem s_forEn {a : Addr} {j1 j2 : Nat} (h : Ev tl σ H (.ref a)) (hx : SqL K H a xs) (Pv : Nat → L2.St → Hp → Prop) (h0 : ∀ H1, Ex H H1 → Pv 0 σ H1) (hl : ∀ i σ' H', i ≤ xs.length → Pv i σ' H' → SqL K H' a xs)
    (hs : ∀ i x σ' H' H2, xs[i]? = some x → Pv i σ' H' → Ex H' H2 → tu { D with nx := Pv (i + 1), ct := Pv (i + 1), bk := D.nx } ((σ'.set j1 (some (.int (i : Int)))).set j2 (some x)) H2) (hd : ∀ σ' H', Pv xs.length σ' H' → D.nx σ' H') :
    tFor (iEnum K (tCons tl tNil)) (gTup K 2 (gCons (gName j1) (gCons (gName j2) gNil))) tu D σ H :=
  h H (Ex.refl H) _ fun H1 e => ⟨a, xs, rfl, ex_l e hx, for_it (walk_enum (xs := xs)) Pv (h0 H1 e) hl (fun i x σ' H' H2 _ p y => by
    obtain ⟨T, x1, y1, rfl, nT, rfl, ha, hb⟩ := y
    cases ha
    exact g_pair (st_of upd_same) (hs i y1 σ' H' _ hb p (Ex.new nT))) hd⟩
theorem q_forEn {a : Addr} {j1 j2 : Nat} (h : Ev tl σ H (.ref a)) (hx : SqL K H a xs) (Pv : Nat → L2.St → Hp → Prop) (h0 : ∀ H1, Ex H H1 → Pv 0 σ H1) (hl : ∀ i σ' H', i ≤ xs.length → Pv i σ' H' → SqL K H' a xs)
    (hs : ∀ i x σ' H' H2, xs[i]? = some x → Pv i σ' H' → Ex H' H2 → tu { D with nx := Pv (i + 1), ct := Pv (i + 1), bk := tz D } ((σ'.set j1 (some (.int (i : Int)))).set j2 (some x)) H2) (hd : ∀ σ' H', Pv xs.length σ' H' → tz D σ' H') :
    tSeq (tFor (iEnum K (tCons tl tNil)) (gTup K 2 (gCons (gName j1) (gCons (gName j2) gNil))) tu) tz D σ H := s_forEn (D := { D with nx := tz D }) h hx Pv h0 hl hs hd
theorem s_forEnN {j1 j2 : Nat} (h : EvL tl σ H xs) (Pv : Addr → Nat → L2.St → Hp → Prop) (h0 : ∀ p H1, H p = none → Ex H H1 → H1 p = some (.lst xs) → Pv p 0 σ H1) (hl : ∀ p i σ' H', i ≤ xs.length → Pv p i σ' H' → SqL K H' p xs)
    (hs : ∀ p i x σ' H' H2, xs[i]? = some x → Pv p i σ' H' → Ex H' H2 → tu { D with nx := Pv p (i + 1), ct := Pv p (i + 1), bk := D.nx } ((σ'.set j1 (some (.int (i : Int)))).set j2 (some x)) H2) (hd : ∀ p σ' H', Pv p xs.length σ' H' → D.nx σ' H') :
    tFor (iEnum K (tCons tl tNil)) (gTup K 2 (gCons (gName j1) (gCons (gName j2) gNil))) tu D σ H :=
  h H (Ex.refl H) _ fun p H1 np e h1 => ⟨p, xs, rfl, sq_of h1, for_it (walk_enum (xs := xs)) (Pv p) (h0 p H1 np e h1) (hl p) (fun i x σ' H' H2 _ q y => by
    obtain ⟨T, x1, y1, rfl, nT, rfl, ha, hb⟩ := y
    cases ha
    exact g_pair (st_of upd_same) (hs p i y1 σ' H' _ hb q (Ex.new nT))) (hd p)⟩
theorem q_forEnN {j1 j2 : Nat} (h : EvL tl σ H xs) (Pv : Addr → Nat → L2.St → Hp → Prop) (h0 : ∀ p H1, H p = none → Ex H H1 → H1 p = some (.lst xs) → Pv p 0 σ H1) (hl : ∀ p i σ' H', i ≤ xs.length → Pv p i σ' H' → SqL K H' p xs)
    (hs : ∀ p i x σ' H' H2, xs[i]? = some x → Pv p i σ' H' → Ex H' H2 → tu { D with nx := Pv p (i + 1), ct := Pv p (i + 1), bk := tz D } ((σ'.set j1 (some (.int (i : Int)))).set j2 (some x)) H2) (hd : ∀ p σ' H', Pv p xs.length σ' H' → tz D σ' H') :
    tSeq (tFor (iEnum K (tCons tl tNil)) (gTup K 2 (gCons (gName j1) (gCons (gName j2) gNil))) tu) tz D σ H := s_forEnN (D := { D with nx := tz D }) h Pv h0 hl hs hd
/-- over a list of pairs that stand -/
theorem s_forP {a : Addr} {as : List Addr} {j1 j2 : Nat} (h : Ev tl σ H (.ref a)) (hx : SqL K H a (as.map V.ref)) (Pv : Nat → L2.St → Hp → Prop) (h0 : ∀ H1, Ex H H1 → Pv 0 σ H1) (hl : ∀ i σ' H', i ≤ as.length → Pv i σ' H' → SqL K H' a (as.map V.ref))
    (hs : ∀ i b σ' H', as[i]? = some b → Pv i σ' H' → ∃ x y, SqT K H' b [x, y] ∧ tu { D with nx := Pv (i + 1), ct := Pv (i + 1), bk := D.nx } ((σ'.set j1 (some x)).set j2 (some y)) H') (hd : ∀ σ' H', Pv as.length σ' H' → D.nx σ' H') :
    tFor (iList K tl) (gTup K 2 (gCons (gName j1) (gCons (gName j2) gNil))) tu D σ H :=
  s_forL h hx Pv h0 (fun i σ' H' hi p => hl i σ' H' (by simpa using hi) p) (fun i x σ' H' hx' p => by
    rw [List.getElem?_map] at hx'
    cases hb : as[i]? with
    | none =>
      rw [hb] at hx'
      cases hx'
    | some b =>
      rw [hb] at hx'
      cases hx'
      obtain ⟨x1, y1, ht, q⟩ := hs i b σ' H' hb p
      exact g_pair ht q) (fun σ' H' p => hd σ' H' (by simpa using p))
end
end Hl
namespace Hl
open PySem PySem.Spec PyProof.Rows L2 Evl
theorem q_forP {K : PySem.W.Frag} {σ : L2.St} {H : Hp} {tl : TE} {D : Ends} {tu tz : TS} {a : Addr} {as : List Addr} {j1 j2 : Nat} (h : Ev tl σ H (.ref a)) (hx : SqL K H a (as.map V.ref)) (Pv : Nat → L2.St → Hp → Prop) (h0 : ∀ H1, Ex H H1 → Pv 0 σ H1) (hl : ∀ i σ' H', i ≤ as.length → Pv i σ' H' → SqL K H' a (as.map V.ref))
    (hs : ∀ i b σ' H', as[i]? = some b → Pv i σ' H' → ∃ x y, SqT K H' b [x, y] ∧ tu { D with nx := Pv (i + 1), ct := Pv (i + 1), bk := tz D } ((σ'.set j1 (some x)).set j2 (some y)) H') (hd : ∀ σ' H', Pv as.length σ' H' → tz D σ' H') :
    tSeq (tFor (iList K tl) (gTup K 2 (gCons (gName j1) (gCons (gName j2) gNil))) tu) tz D σ H := s_forP (D := { D with nx := tz D }) h hx Pv h0 hl hs hd
end Hl
/-! Texts: rows read back, strip. -/
namespace Hl
open PySem PySem.Spec PyProof.Rows L2 Evl
def isSg (c : Nat) : Bool := c == 117 || c == 100
/-- the row that a text is -/
def unrow (z : Str) : Option (List Bool) := if z.cps.toList.all isSg = true then some (z.cps.toList.map fun c => c == 117) else none
theorem sg_un {c : Nat} (h : isSg c = true) : sg (c == 117) = c := by
  unfold isSg at h
  simp at h
  rcases h with rfl | rfl <;> rfl
theorem unrow_some {z : Str} {w : List Bool} (h : unrow z = some w) : z = rowS w := by
  unfold unrow at h
  split at h
  · rename_i ha
    cases h
    unfold rowS
    rw [List.map_map]
    have : z.cps.toList.map (sg ∘ fun c => c == 117) = z.cps.toList := by
      have ha2 := List.all_eq_true.mp ha
      conv => rhs; rw [← List.map_id z.cps.toList]
      exact List.map_congr_left fun c hc => sg_un (ha2 c hc)
    rw [this]
  · cases h
theorem isSg_sg (b : Bool) : isSg (sg b) = true := by cases b <;> rfl
theorem unrow_row (w : List Bool) : unrow (rowS w) = some w := by
  unfold unrow rowS
  have h1 : (SX.S (w.map sg)).cps.toList = w.map sg := by simp
  rw [h1, if_pos (by rw [List.all_map, List.all_eq_true]; exact fun b _ => isSg_sg b), List.map_map]
  congr 1
  conv => rhs; rw [← List.map_id w]
  exact List.map_congr_left fun b _ => by cases b <;> rfl
theorem strip_empty (x y : Str) : Txt.stripChars x y = Str.empty ↔ ∀ c ∈ x.cps.toList, y.cps.contains c = true := by
  have e : Txt.stripChars x y = Builtin.Str.strSub x (stripLo y.cps.contains true x) (stripHi y.cps.contains true x (stripLo y.cps.contains true x)) := stripBy_eq _ _ _ _
  rw [e]
  obtain ⟨h1, h2, h3⟩ := lo_facts y.cps.contains x
  obtain ⟨h4, h5, h6, h7⟩ := hi_facts y.cps.contains x _ h1
  generalize stripLo y.cps.contains true x = lo at h1 h2 h3 h4 h5 h6 h7
  generalize stripHi y.cps.contains true x lo = hi at h4 h5 h6 h7
  have hsz : x.length = x.cps.size := rfl
  have sub : Builtin.Str.strSub x lo hi = Str.empty ↔ hi ≤ lo := by
    unfold Builtin.Str.strSub Str.empty
    constructor
    · intro h
      have := congrArg (fun z : Str => z.cps.size) h
      simp at this
      omega
    · intro h
      have : x.cps.extract lo hi = #[] := by
        apply Array.eq_empty_of_size_eq_zero
        simp
        omega
      rw [this]
  rw [sub]
  constructor
  · intro hle c hc
    obtain ⟨k, hk, ek⟩ := List.mem_iff_getElem.mp hc
    have hk' : k < x.length := by simpa [hsz] using hk
    have hg : x.cps.getD k 0 = c := by
      rw [← getD_list, List.getD, List.getElem?_eq_getElem hk, ek]
      rfl
    rw [← hg]
    by_cases hkl : k < lo
    · exact h2 k hkl
    · exact h6 k (by omega) hk'
  · intro hall
    have hlo : lo = x.length := by
      rcases h3 with h3 | h3
      · exact h3
      · by_cases hl : lo < x.length
        · exfalso
          have hm : x.cps.getD lo 0 ∈ x.cps.toList := by
            simp [Array.getD, show lo < x.cps.size from hl]
          rw [hall _ hm] at h3
          cases h3
        · omega
    omega
theorem lit_ud : ("ud" : Str) = ⟨#[117, 100]⟩ := by decide +kernel
theorem strip_row (z : Str) : decide (Txt.stripChars z "ud" = ("" : Str)) = (unrow z).isSome := by
  have e0 : ("" : Str) = Str.empty := by decide +kernel
  rw [e0, lit_ud]
  have key : (∀ c ∈ z.cps.toList, (#[117, 100] : Array Nat).contains c = true) ↔ z.cps.toList.all isSg = true := by
    rw [List.all_eq_true]
    constructor
    · intro h c hc
      have := h c hc
      simp at this
      unfold isSg
      simp
      omega
    · intro h c hc
      have := h c hc
      unfold isSg at this
      simp at this
      simp
      omega
  unfold unrow
  by_cases h : z.cps.toList.all isSg = true
  · rw [if_pos h, decide_eq_true ((strip_empty z ⟨#[117, 100]⟩).mpr (key.mpr h))]
    rfl
  · rw [if_neg h, decide_eq_false (fun q => h (key.mp ((strip_empty z ⟨#[117, 100]⟩).mp q)))]
    rfl
/-- a method of a text with one argument, by its value -/
theorem ev_strip {K : PySem.W.Frag} {σ : L2.St} {H : Hp} {ta tb : TE} {z y : Str} (hz : z.length ≤ 100000) (h1 : Ev ta σ H (.str z)) (h2 : Ev tb σ H (.str y)) :
    Ev (tBM K "str" (fun x xs H Q => ∃ a b, x = .str a ∧ xs = [.str b] ∧ a.length ≤ sizeLine ∧ Q (.str (Txt.stripChars a b)) H) ta (tCons tb tNil)) σ H (.str (Txt.stripChars z y)) := fun H1 e Q q =>
  h1 H1 e _ fun H2 e2 => ⟨rfl, h2 H2 (e.trans e2) _ fun H3 e3 => ⟨z, y, rfl, rfl, sz_of hz, q H3 (e2.trans e3)⟩⟩
end Hl
/-! Rules that the layer lacks: enumerate over a text. -/
namespace Hl
open PySem PySem.Spec PyProof.Rows L2 Evl
/-- the signs of a text in new pairs with their places -/
def Ites (z : Str) : It := ⟨fun i _ => i < z.cps.size, fun i H v H' => ∃ T c, v = .ref T ∧ H T = none ∧ H' = upd H T (.tup [.int (i : Nat), .str ⟨#[c]⟩]) ∧ z.cps[i]? = some c, fun i _ => z.cps.size ≤ i⟩
theorem turn_enumS {P : Program} {w : World} {K : PySem.W.Frag} {elts : List Expr} {kk : Nat} {tpos : Pos} (z : Str) (t : Tok) (ty : String) (hty : ty = "str_ascii_iterator" ∨ ty = "str_iterator") (e it : Addr) :
    Turn P w K (.Tuple elts kk tpos) (Ites z) [e, it] e (fun i h => (∃ old, IsEnum h e it ((i : Nat) : Int) old) ∧ h.IsStrIter it ty z t i ∧ e ≠ it ∧ i ≤ z.cps.size) where
  mem := by simp
  obj := fun i h st b hb => by
    obtain ⟨⟨old, he⟩, ⟨o, ho, hc, hd⟩, _, _⟩ := st
    have e' : b = e ∨ b = it := by simpa using hb
    rcases e' with q | q
    · rw [q]; exact ⟨_, he, fun v q => nomatch q⟩
    · rw [q]; exact ⟨o, ho, fun v q => by rw [hd] at q; cases q⟩
  keep := fun i h h' st k => let ⟨⟨old, he⟩, ⟨o, ho, r⟩, hne, hi⟩ := st; ⟨⟨old, k e (by simp) _ he⟩, ⟨o, k it (by simp) o ho, r⟩, hne, hi⟩
  item := by
    intro X hP hw hK hc i pins s σ H E I hf st hg
    subst hP hw hK
    obtain ⟨⟨old, he⟩, hit, hne, hin⟩ := st
    have hel : e < s.heap.objs.size := Heap.lt_size he
    have hil : it < s.heap.objs.size := by obtain ⟨_, q, _⟩ := hit; exact Heap.lt_size q
    have D : Draws X.prog X.w X.A.in1 it [it] z.cps.size (SignAt z) (fun i h => h.IsStrIter it ty z t i) := by
      rcases hty with q | q
      · rw [q]; exact Draws.strAscii (A := X.A.in1) (show X.A.in1.handled = none from I.ok.hd hc) it z t
      · rw [q]; exact Draws.strWide (A := X.A.in1) (show X.A.in1.handled = none from I.ok.hd hc) it z t
    refine wpAny_pyNext_enum_itemD D he hit hg hne (by simpa using hne) fun x h' tk hx ho hit' hT hsz hk => ?_
    obtain ⟨c, u, hcx, rfl⟩ := hx
    refine ⟨_, rfl, wpAny_letOwnedTupleGo_enum (s := { s with heap := h', toks := tk + 1 }) ho fun h'' he' sb => ?_⟩
    have hT2 : h''.get? s.heap.objs.size = some { cls := .type "tuple", data := .seq #[.int i tk, .str ⟨#[c]⟩ u] } := (sb.2 _ (Nat.ne_of_gt hel)).trans hT
    have new : ObjOk X.prog X.w (upd H s.heap.objs.size (.tup [.int (i : Nat), .str ⟨#[c]⟩])) h'' s.heap.objs.size (.tup [.int (i : Nat), .str ⟨#[c]⟩]) :=
      ⟨by show 2 ≤ sizeLine; decide, [.int i tk, .str ⟨#[c]⟩ u], .cons ⟨_, rfl⟩ (.cons ⟨_, rfl⟩ .nil), ⟨_, hT2, rfl, _, rfl⟩⟩
    have I1 : Inv X pins σ (upd H s.heap.objs.size (.tup [.int (i : Nat), .str ⟨#[c]⟩])) { s with heap := h'', toks := tk + 1 } :=
      I.turnedNew (ch := [e, it]) (fun b ob hb q => (sb.2 b (fun z => hb (by simp [z]))).trans (hk b ob (fun z => hb (by simp [z])) (fun z => hb (by simp [z])) q)) hf (Nat.le_refl _) new
    refine ⟨.ref s.heap.objs.size, _, I1, rfl, ⟨_, c, rfl, I.hok.fresh (Nat.le_refl _), rfl, hcx⟩, ⟨⟨.str ⟨#[c]⟩ u, ?_⟩, ?_, hne, hg⟩, fun b hb => ?_⟩
    · have e1 : ((i + 1 : Nat) : Int) = (i : Int) + 1 := by omega
      rw [e1]; exact he'
    · obtain ⟨o, ho2, r⟩ := hit'
      exact ⟨o, (sb.2 it (Ne.symm hne)).trans ho2, r⟩
    · have hb' : b < s.heap.objs.size := by
        have e' : b = e ∨ b = it := by simpa using hb
        rcases e' with q | q
        · rw [q]; exact hel
        · rw [q]; exact hil
      rw [upd_ne (Nat.ne_of_lt hb')]
      exact (hf b hb).1
  done := by
    intro X hP hw hK hc i pins s σ H E I hf st hg
    subst hP hw hK
    obtain ⟨⟨old, he⟩, hit, hne, hin⟩ := st
    obtain ⟨f0, f1, f2, f3, f4, f5⟩ := hf it (by simp)
    have hi : i = z.cps.size := by
      have : z.cps.size ≤ i := hg
      omega
    subst hi
    have D : Draws X.prog X.w X.A.in1 it [it] z.cps.size (SignAt z) (fun i h => h.IsStrIter it ty z t i) := by
      rcases hty with q | q
      · rw [q]; exact Draws.strAscii (A := X.A.in1) (show X.A.in1.handled = none from I.ok.hd hc) it z t
      · rw [q]; exact Draws.strWide (A := X.A.in1) (show X.A.in1.handled = none from I.ok.hd hc) it z t
    exact wpAny_pyNext_enum_endD D he hit fun h' eb => ⟨rfl, I.turned (t' := s.toks) (fun b o hb q => eb b o hb q) f0 f1 f3 f4 f5⟩
  self := fun A i s Q E st h => let ⟨⟨_, he⟩, _⟩ := st; wpAny_pyIter_enum he h
def iEnumS (ta : TA) : TI := fun σ H R => ta σ H fun vs H1 => ∃ z, vs = [.str z] ∧ R (Ites z) H1
theorem pi_enumS {X : Cx} {e : Expr} {ta : TA} {p pos tpos : Pos} {elts : List Expr} {kk : Nat} (hg : Gl X "enumerate") (hm : X.mg "enumerate" = none) (ha : PA X [e] ta) (hs : starEach [e] X.env = [(false, eval e X.env)] := by rfl) :
    PI X (.Tuple elts kk tpos) (.Call (.Name "enumerate" p) [e] [] pos) (iEnumS ta) := by
  refine ⟨fun pins s σ H R I h => ?_⟩
  refine Call_ (ld_blt I hg hm boot_enumerate (PyProof.Rows.callWith_type1 (thn (ha.run pos pins s σ H _ I h) fun us s1 ⟨vs, H1, I1, r1, q1⟩ => ?_) hs rfl))
  obtain ⟨z, ex, q⟩ := q1
  subst ex
  cases r1 with
  | cons r rr =>
    cases rr
    obtain ⟨t, rfl⟩ := r
    refine call_enumerate_str fun h' he hit hsz hk => wpAny_pyIter_enum he ?_
    have I2 : Inv X pins σ H1 { s1 with heap := h' } := I1.kept (t' := s1.toks) hk
    have hty : strIterType z = "str_ascii_iterator" ∨ strIterType z = "str_iterator" := by
      unfold strIterType
      split
      · exact .inl rfl
      · exact .inr rfl
    refine ⟨s1.heap.objs.size + 1, [s1.heap.objs.size + 1, s1.heap.objs.size], _, _, H1, rfl, I2, turn_enumS z t (strIterType z) hty (s1.heap.objs.size + 1) s1.heap.objs.size, ⟨⟨.none, he⟩, hit, Nat.succ_ne_self _, Nat.zero_le _⟩, fun b hb => ?_, q⟩
    have e' : b = s1.heap.objs.size + 1 ∨ b = s1.heap.objs.size := by simpa using hb
    have hle : s1.heap.objs.size ≤ b := by
      rcases e' with q | q
      · rw [q]; exact Nat.le_add_right _ _
      · rw [q]; exact Nat.le_refl _
    exact I1.fpOk hle (I1.hok.fresh hle)
theorem walk_enumS {z : Str} : Walk (Ites z) z.cps.size (fun _ => True) (YPair (fun i => some (.int (i : Nat))) (fun i => z.cps[i]?.map fun c => .str ⟨#[c]⟩)) := by
  refine ⟨fun i _ hi _ => hi, fun _ _ => Nat.le_refl _, fun i H v H' _ _ y => ?_⟩
  obtain ⟨T, c, h1, h2, h3, h4⟩ := y
  exact ⟨T, .int (i : Nat), .str ⟨#[c]⟩, h1, h2, h3, rfl, by show (z.cps[i]?.map fun c => V.str ⟨#[c]⟩) = _; rw [h4]; rfl⟩
section
variable {K : PySem.W.Frag} {σ : L2.St} {H : Hp} {tl : TE} {D : Ends} {tu tz : TS} {z : Str} {j1 j2 : Nat}
theorem s_forEnS (h : Ev tl σ H (.str z)) (Pv : Nat → L2.St → Hp → Prop) (h0 : ∀ H1, Ex H H1 → Pv 0 σ H1)
    (hs : ∀ i c σ' H' H2, z.cps[i]? = some c → Pv i σ' H' → Ex H' H2 → tu { D with nx := Pv (i + 1), ct := Pv (i + 1), bk := D.nx } ((σ'.set j1 (some (.int (i : Int)))).set j2 (some (.str ⟨#[c]⟩))) H2) (hd : ∀ σ' H', Pv z.cps.size σ' H' → D.nx σ' H') :
    tFor (iEnumS (tCons tl tNil)) (gTup K 2 (gCons (gName j1) (gCons (gName j2) gNil))) tu D σ H :=
  h H (Ex.refl H) _ fun H1 e => ⟨z, rfl, for_it walk_enumS Pv (h0 H1 e) (fun _ _ _ _ _ => trivial) (fun i x σ' H' H2 _ p y => by
    obtain ⟨T, x1, y1, rfl, nT, rfl, ha, hb⟩ := y
    cases ha
    have hb2 : (z.cps[i]?.map fun c => V.str ⟨#[c]⟩) = some y1 := hb
    cases e : z.cps[i]? with
    | none => rw [e] at hb2; cases hb2
    | some c =>
      rw [e] at hb2
      cases hb2
      exact g_pair (st_of upd_same) (hs i c σ' H' _ e p (Ex.new nT))) hd⟩
theorem q_forEnS (h : Ev tl σ H (.str z)) (Pv : Nat → L2.St → Hp → Prop) (h0 : ∀ H1, Ex H H1 → Pv 0 σ H1)
    (hs : ∀ i c σ' H' H2, z.cps[i]? = some c → Pv i σ' H' → Ex H' H2 → tu { D with nx := Pv (i + 1), ct := Pv (i + 1), bk := tz D } ((σ'.set j1 (some (.int (i : Int)))).set j2 (some (.str ⟨#[c]⟩))) H2) (hd : ∀ σ' H', Pv z.cps.size σ' H' → tz D σ' H') :
    tSeq (tFor (iEnumS (tCons tl tNil)) (gTup K 2 (gCons (gName j1) (gCons (gName j2) gNil))) tu) tz D σ H := s_forEnS (D := { D with nx := tz D }) h Pv h0 hs hd
theorem ei_enumS (h : Ev tl σ H (.str z)) : EvI (iEnumS (tCons tl tNil)) σ H (WalkX z.cps.size (YPair (fun i => some (.int (i : Nat))) (fun i => z.cps[i]?.map fun c => .str ⟨#[c]⟩))) := fun H1 e R r =>
  h H1 e _ fun H2 e2 => ⟨z, rfl, r _ H2 e2 ⟨_, walk_enumS, trivial, fun _ _ _ _ => trivial⟩⟩
end
end Hl
/-! ### what never comes back: a reading that ends in a refusal -/
namespace Hl
open PySem PySem.Spec PyProof.Rows L2 Evl
def Rx (te : TE) (σ : L2.St) (H : Hp) : Prop := ∀ H1, Ex H H1 → ∀ Q : VK, te σ H1 Q
def RxA (ta : TA) (σ : L2.St) (H : Hp) : Prop := ∀ H1, Ex H H1 → ∀ Q : List V → Hp → Prop, ta σ H1 Q
def RxT (tt : TT) (σ : L2.St) (H : Hp) : Prop := ∀ H1, Ex H H1 → ∀ Q : Bool → Hp → Prop, tt σ H1 Q
section
variable {K : PySem.W.Frag} {σ : L2.St} {H : Hp} {ta tb te : TE} {tA : TA} {tt : TT} {sp : Sp} {dvs vs : List V} {E : XK} {r : R2} {x : V} {D : Ends} {tu tz : TS}
theorem rx_call (h : EvA tA σ H vs) (hs : ∀ H1, Ex H H1 → ∀ Q, sp (vs ++ dvs) H1 Q E) : Rx (tCall sp dvs E tA) σ H := fun H1 e Q => h H1 e _ fun H2 e2 => hs H2 (e.trans e2) Q
theorem rx_callA (h : RxA tA σ H) : Rx (tCall sp dvs E tA) σ H := fun H1 e Q => h H1 e _
theorem rx_cb {rr : List V → Hp → VK → Prop} (h : RxA tA σ H) : Rx (tCB rr tA) σ H := fun H1 e Q => h H1 e _
theorem rx_opL (h : Rx ta σ H) : Rx (tOp r ta tb) σ H := fun H1 e Q => h H1 e _
theorem rx_opR (h1 : Ev ta σ H x) (h : Rx tb σ H) : Rx (tOp r ta tb) σ H := fun H1 e Q => h1 H1 e _ fun H2 e2 => h H2 (e.trans e2) _
theorem rx_cons (h : Rx te σ H) : RxA (tCons te tA) σ H := fun H1 e Q => h H1 e _
theorem rx_tail (h1 : Ev te σ H x) (h : RxA tA σ H) : RxA (tCons te tA) σ H := fun H1 e Q => h1 H1 e _ fun H2 e2 => h H2 (e.trans e2) _
theorem rx_B (h : Rx te σ H) : RxT (tB te) σ H := fun H1 e Q => h H1 e _
theorem rx_test (h : Rx te σ H) : RxT (tTest te) σ H := fun H1 e Q => h H1 e _
theorem rx_not (h : RxT tt σ H) : RxT (tNot tt) σ H := fun H1 e Q => h H1 e _
theorem rs_if (h : RxT tt σ H) {tw : TS} : tIfS tt tu tw D σ H := h H (Ex.refl H) _
theorem rs_ret (h : Rx te σ H) : tRet te D σ H := h H (Ex.refl H) _
theorem rs_drop (h : Rx te σ H) : tDrop te D σ H := h H (Ex.refl H) _
theorem rs_asg {g : TG} (h : Rx te σ H) : tAsg te g D σ H := h H (Ex.refl H) _
theorem rs_seq {t u : TS} (h : t { D with nx := u D } σ H) : tSeq t u D σ H := h
/-- for k in reversed(range(n)) -/
theorem q_forRev {j : Nat} {n : Int} (h : Ev te σ H (.int n)) (hn : 0 ≤ n ∧ n ≤ 100000) (Pv : Nat → L2.St → Hp → Prop) (h0 : ∀ H1, Ex H H1 → Pv 0 σ H1)
    (hs : ∀ (i : Nat) σ' H', (i : Int) < n → Pv i σ' H' → tu { D with nx := Pv (i + 1), ct := Pv (i + 1), bk := tz D } (σ'.set j (some (.int (n - 1 - (i : Int))))) H') (hd : ∀ σ' H', Pv n.toNat σ' H' → tz D σ' H') :
    tSeq (tFor (iRevR (tRg1 te)) (gName j) tu) tz D σ H :=
  h H (Ex.refl H) _ fun H1 e => ⟨n, rfl, by omega, by omega, by omega, by omega, for_it walk_rangeC Pv (h0 H1 e) (fun _ _ _ _ _ => trivial) (fun i x σ' H' H2 hi p y => by
    obtain ⟨rfl, rfl⟩ := y
    have e1 : (0 : Int) + (((n - 0).toNat : Nat) : Int) - 1 + (i : Nat) * (-1) = n - 1 - (i : Int) := by omega
    show gName j (.int (0 + (((n - 0).toNat : Nat) : Int) - 1 + (i : Nat) * (-1))) σ' _ _
    rw [e1]
    exact hs i σ' _ (by omega) p) (fun σ' H' p => hd σ' H' (by
      have e1 : (n - 0).toNat = n.toNat := by omega
      rw [e1] at p
      exact p))⟩
end
/-- s op= t for texts -/
theorem q_augS {σ : L2.St} {H : Hp} {te : TE} {D : Ends} {tz : TS} {i : Nat} {a b : Str} (hx : σ[i]? = some (some (.str a))) (h : Ev te σ H (.str b)) (hl : a.length + b.length ≤ 100000) (k : ∀ H1, Ex H H1 → tz D (σ.set i (some (.str (a ++ b)))) H1) :
    tSeq (tAug i te (fun x y H Q => ∃ i j, x = .str i ∧ y = .str j ∧ i.length + j.length ≤ sizeLine ∧ Q (.str (i ++ j)) H)) tz D σ H :=
  ⟨.str a, hx, h H (Ex.refl H) _ fun H1 e => ⟨a, b, rfl, rfl, sz_of hl, k H1 e⟩⟩
theorem ev_lenS {σ : L2.St} {H : Hp} {ta : TE} {z : Str} (h1 : Ev ta σ H (.str z)) (hz : z.length ≤ 100000) : Ev (tCB (fun xs H Q => ∃ z : Str, xs = [.str z] ∧ z.length ≤ sizeLine ∧ Q (.int z.length) H) (tCons ta tNil)) σ H (.int (z.length : Int)) :=
  ev_cb (ea_cons h1 ea_nil) fun H1 _ Q q => ⟨z, rfl, sz_of hz, q H1 (Ex.refl H1)⟩
end Hl
/-! ### a text some times over -/
namespace Hl
open PySem PySem.Spec PyProof.Rows L2 Evl
def repS (z : Str) (n : Nat) : Str := SX.S (List.replicate n z.cps.toList).flatten
theorem foldl_app (c : List Nat) : ∀ (n : Nat) (acc : List Nat), List.foldl (fun x1 x2 => x1 ++ x2) acc.toArray (List.replicate n c.toArray) = (acc ++ (List.replicate n c).flatten).toArray
  | 0, acc => by simp
  | n + 1, acc => by
    have ih := foldl_app c n (acc ++ c)
    simp only [List.replicate_succ, List.foldl_cons, List.flatten_cons, ← List.append_assoc] at ih ⊢
    rw [← ih]
    congr 1
    simp
theorem rep_fold (z : Str) (n : Nat) : (⟨(List.replicate n z.cps).foldl (· ++ ·) #[]⟩ : Str) = repS z n := by
  have h := foldl_app z.cps.toList n []
  rw [List.nil_append] at h
  have e : z.cps.toList.toArray = z.cps := by simp
  rw [e] at h
  show Str.mk _ = Str.mk _
  congr 1
def rRepS : R2 := fun x y H Q => ∃ (z : Str) (k : Int), x = .str z ∧ y = .int k ∧ 0 ≤ k ∧ k ≤ 100000 ∧ z.length ≤ 100 ∧ Q (.str (repS z k.toNat)) H
theorem op_repS {X : Cx} : OpR X (binaryOp .Mult) rRepS := by
  intro pins s σ H x y v u Q I rx ry h
  obtain ⟨z, k, rfl, rfl, h0, h1, hz, q⟩ := h
  obtain ⟨t, rfl⟩ := rx
  obtain ⟨t', rfl⟩ := ry
  have hm : (z.length : Int) * k ≤ 100 * 100000 := by
    have a1 : (z.length : Int) * k ≤ 100 * k := Int.mul_le_mul_of_nonneg_right (by omega) h0
    omega
  refine P.mul_str (by rw [decide_eq_false (by omega), decide_eq_false (by omega)]; rfl) (fun a _ => ?_) (fun a _ => ?_) ?_
  · have : (z.length : Int) ≤ (2 ^ 63 - 1) / k := Int.le_ediv_of_mul_le (by omega) (by omega)
    omega
  · unfold Builtin.Str.tooLong
    have : z.length * k.toNat ≤ 100 * 100000 := Nat.mul_le_mul hz (by omega)
    rw [decide_eq_false]
    rw [sizeLine_eq]
    omega
  · split
    · rename_i a
      have e : repS z k.toNat = Str.empty := by
        have : k.toNat = 0 := by omega
        rw [this]
        rfl
      rw [e] at q
      exact ⟨by decide, .str Str.empty, H, I.tok _, ⟨_, rfl⟩, q⟩
    · split
      · rename_i a b
        have e : repS z k.toNat = z := by
          rcases Bool.or_eq_true_iff.mp b with c | c
          · have : k.toNat = 1 := by
              have := eq_of_beq c
              omega
            rw [this]
            unfold repS
            simp
          · have c2 : z.cps.toList = [] := by
              have c3 : z.cps.size = 0 := eq_of_beq c
              exact List.eq_nil_of_length_eq_zero (by simpa using c3)
            unfold repS
            rw [c2]
            have : (List.replicate k.toNat ([] : List Nat)).flatten = [] := by
              induction k.toNat with
              | zero => rfl
              | succ n ih => rw [List.replicate_succ, List.flatten_cons, ih]; rfl
            rw [this, ← c2]
        rw [e] at q
        exact ⟨.str z, H, I, ⟨_, rfl⟩, q⟩
      · rw [rep_fold]
        exact ⟨by
          show (repS z k.toNat).length ≤ sizeLine
          unfold repS
          rw [SX.S_len, List.length_flatten, List.map_replicate, List.sum_replicate_nat, sizeLine_eq]
          have : k.toNat * z.cps.toList.length ≤ 100000 * 100 := Nat.mul_le_mul (by omega) (by rw [Array.length_toList]; exact hz)
          omega, .str (repS z k.toNat), H, I.tok _, ⟨_, rfl⟩, q⟩
theorem ev_repS {σ : L2.St} {H : Hp} {ta tb : TE} {z : Str} {k : Int} (h1 : Ev ta σ H (.str z)) (h2 : Ev tb σ H (.int k)) (h0 : 0 ≤ k ∧ k ≤ 100000) (hz : z.length ≤ 100) : Ev (tOp rRepS ta tb) σ H (.str (repS z k.toNat)) :=
  ev_op h1 h2 fun H1 _ Q q => ⟨z, k, rfl, rfl, h0.1, h0.2, hz, q H1 (Ex.refl H1)⟩
theorem rep_u (n : Nat) : repS "u" n = rowS (List.replicate n true) := by
  unfold repS rowS
  congr 1
  induction n with
  | zero => rfl
  | succ n ih => rw [List.replicate_succ, List.replicate_succ, List.flatten_cons, ih]; rfl
theorem rep_d (n : Nat) : repS "d" n = rowS (List.replicate n false) := by
  unfold repS rowS
  congr 1
  induction n with
  | zero => rfl
  | succ n ih => rw [List.replicate_succ, List.replicate_succ, List.flatten_cons, ih]; rfl
end Hl
/-! ### try: body, except E as x: y = x; the caught thing is kept -/
namespace Hl
open PySem PySem.Spec PyProof.Rows L2
/-- a caught refusal of the class at C, as it stands at a; its fields, where it has any, lie at dd -/
def KeepX (C : Addr) (dd : Option Addr) (a : Addr) : HO := .ext fun h => ∃ (oe : Obj) (vs : Array Value), h.get? a = some oe ∧ Zc (.ref C) dd oe ∧ oe.data = .fields vs
abbrev KeepO (C a : Addr) : HO := KeepX C none a
theorem keep_ok {P : Program} {w : World} {H : Hp} {h : Heap} {C a : Addr} {dd : Option Addr} {oe : Obj} {vs : Array Value} (e : h.get? a = some oe) (z : Zc (.ref C) dd oe) (d : oe.data = .fields vs) : ObjOk P w H h a (KeepX C dd a) :=
  ⟨⟨oe, vs, e, z, d⟩, ⟨oe, e⟩, fun _ _ ⟨o, v, e1, z1, d1⟩ k => ⟨o, v, k o e1, z1, d1⟩⟩
section
variable {X : Cx} {pins : List (Addr × Obj)} {σ : L2.St} {H : Hp} {s : Shared}
/-- a pinned thing is tracked from here on -/
theorem inv_track {a : Addr} {oe : Obj} {o : HO} (I : Inv X ((a, oe) :: pins) σ H s) (h0 : X.s_0.heap.get? a = none) (hp : ∀ p ∈ X.pn ++ pins, p.1 ≠ a) (new : ObjOk X.prog X.w (upd H a o) s.heap a o) : Inv X pins σ (upd H a o) s := by
  obtain ⟨p1, p2, p3, p4, p5⟩ := I.pin (a, oe) (List.mem_append_right _ List.mem_cons_self)
  have ne : ∀ {b : Addr} {u : HO}, H b = some u → b ≠ a := fun e => ne_of_none e p2
  refine ⟨I.ok, I.os, I.bare, ⟨I.base.keep, I.base.slot, fun b ob e n hx => ?_, I.base.there, fun b xs e => ?_, fun b ob u e => ?_, fun b ps e => ?_⟩, I.loc, I.cell, ?_, fun x c e => ?_, fun p hm => ?_, fun b u e => ?_, I.len⟩
  · have nb : b ≠ a := fun z => by rw [z, h0] at e; cases e
    rw [upd_ne nb]
    exact I.base.free b ob e n hx
  · have q := I.base.tups b xs e
    rw [upd_ne (ne q)]
    exact q
  · have q := I.base.frzs b ob u e
    rw [upd_ne (ne q)]
    exact q
  · obtain ⟨m, q⟩ := I.base.tbls b ps e
    exact ⟨m, by rw [upd_ne (ne q)]; exact q⟩
  · rw [upd_ne (Ne.symm p3)]
    exact I.free
  · have nc : c ≠ a := fun z => by
      obtain ⟨v, oc, e1, e3⟩ := I.cell x c e
      rw [z] at e1
      have e4 : oe = oc := Option.some.inj (p1.symm.trans e1)
      exact p5 v (e4 ▸ e3)
    rw [upd_ne nc]
    exact I.freeC x c e
  · have hm2 : p ∈ X.pn ++ ((a, oe) :: pins) := (List.mem_append.mp hm).elim (fun z => List.mem_append_left _ z) fun z => List.mem_append_right _ (List.mem_cons_of_mem _ z)
    obtain ⟨q1, q2, q3, q4, q5⟩ := I.pin p hm2
    exact ⟨q1, by rw [upd_ne (hp p hm)]; exact q2, q3, q4, q5⟩
  · by_cases hb : b = a
    · subst hb
      rw [upd_same] at e
      cases e
      exact new
    · rw [upd_ne hb] at e
      exact (I.hok b u e).stay (fun c v _ q => q) (fun c q => by rw [upd_ne (ne q)]; exact q) fun c xs q => by rw [upd_ne (ne q)]; exact q
end
/-- what the clause wishes: the class is caught -/
def wKeep (K : PySem.W.Frag) (c : Value) (i : Nat) (ts : Addr → TS) (D : Ends) : WX := fun cls d σ H => PySem.W.exmOne K cls c = some true ∧ ∃ C : Addr, cls = .ref C ∧
  ∀ a, H a = none → ts a { nx := fun σ' H' => H' a = none → D.nx (σ'.set i none) (upd H' a (KeepX C d a)), rt := fun _ _ => False, bk := fun _ _ => False, ct := fun _ _ => False } (σ.set i (some (.ref a))) H
def tTryK (K : PySem.W.Frag) (c : Value) (i : Nat) (ts : Addr → TS) (tb : WX → TS) : TS := fun D σ H => tb (wKeep K c i ts D) D σ H
section
variable {X : Cx} {x n : Str} {c : Value} {i : Nat} {body suite : List Stmt} {b₀ : Stmt} {np pos pos' : Pos} {tb : WX → TS} {ts : Addr → TS}
theorem ps_try_keep (hs : X.stack = X.env :: X.outer) (hf : X.env.frame = some X.env.locals) (hN : X.N.Nodup) (hi : X.N[i]? = some n) (hln : X.env.kindOf n = some .local) (hex : X.ex = []) (hc : Names X x c)
    (hb : ∀ (W : WX) (pn : List (Addr × Obj)) (xe : Value → Shared → Prop), Takes (X.tr pn xe) W → PassesOwn (model X.prog X.w) X.A X.env xe → PSs (X.tr pn xe) body (tb W))
    (hsu : ∀ (a : Addr) (oe : Obj) (pn : List (Addr × Obj)), PSs (X.suite a ((a, oe) :: pn)) (b₀ :: suite) (ts a)) :
    PS X (.Try body [.ExceptHandler (some (.Name x np)) (some n) (b₀ :: suite) pos'] [] [] pos) (tTryK X.K c i ts tb) := by
  refine ⟨fun pins s σ H D I h => ?_⟩
  have ok := I.ok
  have hfr : X.A.frames = some (X.env :: X.outer) := by rw [ok.frames, hs]
  refine wpAny_Try_except (wpAny_mono ((hb (wKeep X.K c i ts D) (X.pn ++ pins) (fun e s₁ => wpAny (model X.prog X.w) X.A (noteFrame e X.env) (fun _ s₂ => wpAny (model X.prog X.w) X.A (setFlight e none) (fun _ s₃ =>
    wpAny (model X.prog X.w) X.A (handleBy e X.env [.ExceptHandler (some (.Name x np)) (some n) (b₀ :: suite) pos']) (SP X pins D) X.xe s₃) X.xe s₂) X.xe s₁) (fun u s' xx => ?_) PassesOwn.looking).run [] s σ H D (I.toTry _) h) (fun f s1 hsp => ?_) (fun e s1 he => he))
  · obtain ⟨a, B, sI, pins', σ', H', cls, d, rfl, J', nb, up, sky, na, os, ag, hm, C, rfl, go⟩ := xx
    have J : Inv X pins σ' H' sI := J'.ofTry ok
    rw [show (X.tr (X.pn ++ pins) _).stack = X.env :: X.outer from hs] at sky
    refine Sky.land Zc.steady hfr hf sky fun h3 fl3 up3 => ?_
    have J3 : Inv X pins σ' H' { s' with heap := h3 } := J.landed nb fl3.1 (up.trans up3) os ag
    obtain ⟨oe3, vs3, he3, hz3, hd3⟩ := fl3.there
    have nfr : a ∉ frs (X.env :: X.outer) := fun hmm => by
      obtain ⟨_, o', e', hnf⟩ := fl3.2.2.1.mem hmm
      rw [he3] at e'
      cases e'
      exact hnf _ hd3
    have nL : a ≠ X.env.locals := fun z => nfr (List.mem_filterMap.mpr ⟨X.env, List.mem_cons_self, by rw [hf, z]⟩)
    have nF : a ∉ X.fs := fun hmm => by
      obtain ⟨e, he, q⟩ := List.mem_filterMap.mp hmm
      exact nfr (List.mem_filterMap.mpr ⟨e, List.mem_cons_of_mem _ he, q⟩)
    -- it is new
    have nI : sI.heap.get? a = none := by
      cases q : sI.heap.get? a with
      | none => rfl
      | some o =>
        have z := nb a o q (by
          show a ∉ frs X.stack
          rw [hs]
          exact nfr)
        rw [fl3.2.1] at z
        cases z
    have n0 : X.s_0.heap.get? a = none := by
      cases q : X.s_0.heap.get? a with
      | none => rfl
      | some o =>
        obtain ⟨o', e1⟩ := J.base.there a o q (by rw [hex]; exact List.not_mem_nil)
        rw [nI] at e1
        cases e1
    have npn : ∀ p ∈ X.pn ++ pins, p.1 ≠ a := fun p hp z => by
      have e1 := (J.pin p hp).1
      rw [z, nI] at e1
      cases e1
    have S3 := J3.suite he3 hd3 na nL nF
    refine wpAny_handleBy_cons (codeAny_handlers_test ?_) (by intro q; cases q)
    have LT : PySem.W.Looks (model X.prog X.w) h3 (typeOf (.ref a)) (.ref C) := fun A Q E s k q => wpAny_typeOf_ref (k _ _ he3) (by rw [hz3.1]; exact q)
    have test : ∀ {Q : Value → Shared → Prop} {E : Value → Shared → Prop}, Q c { s' with heap := h3 } → wpAny (model X.prog X.w) (X.A.mark (some (.ref a))) (eval (.Name x np) X.env) Q E { s' with heap := h3 } := fun {Q E} q => by
      obtain ⟨hg, hdbg, hm | ⟨hm, hv, hnn⟩⟩ := hc
      · exact ld_glob (X := X.suite a ((a, oe3) :: (X.pn ++ pins))) S3 hg hm q hdbg
      · exact ld_blt (X := X.suite a ((a, oe3) :: (X.pn ++ pins))) S3 hg hm hv q hnn hdbg
    refine test ((PySem.W.exm_one (M := model X.prog X.w) J3.kIn LT hm).here (codeAny_handlers_suite_as ?_))
    refine HandSPX.lands_againZ fl3 fun h4 fl4 up4 => ?_
    have J4 : Inv X pins σ' H' { s' with heap := h4 } := J.landed nb fl4.1 ((up.trans up3).trans up4) os ag
    obtain ⟨oe4, vs4, he4, hz4, hd4⟩ := fl4.there
    refine store_ok (X := X.suite a ((a, oe4) :: (X.pn ++ pins))) (v := .ref a) (J4.suite he4 hd4 na nL nF) hN hi (.inl hln) rfl (fun s5 S5 => ?_) (.inr hln)
    refine wpAny_mono ((hsu a oe4 (X.pn ++ pins)).run [] s5 _ H' _ S5 (go a na)) (fun f s6 hsp => ?_) (fun _ _ z => False.elim z)
    cases f with
    | next =>
      obtain ⟨σ6, H6, S6, q6⟩ := hsp
      have J6 : Inv X ((a, oe4) :: pins) σ6 H6 s6 := ⟨ok, S6.os, S6.bare, S6.base, S6.loc, S6.cell, S6.free, S6.freeC, fun p hp => S6.pin p (by
        rw [List.append_nil]
        rcases List.mem_append.mp hp with z | z
        · exact List.mem_cons_of_mem _ (List.mem_append_left _ z)
        · rcases List.mem_cons.mp z with e | z
          · rw [e]
            exact List.mem_cons_self
          · exact List.mem_cons_of_mem _ (List.mem_append_right _ z)), S6.hok, S6.len⟩
      refine gone_ok J6 hN hi hln fun s7 J7 => ?_
      have pn7 := J7.pin (a, oe4) (List.mem_append_right _ List.mem_cons_self)
      exact ⟨_, _, inv_track J7 n0 npn (keep_ok pn7.1 hz4 hd4), q6 pn7.2.1⟩
    | brk =>
      obtain ⟨σ6, H6, S6, q6⟩ := hsp
      exact q6.elim
    | cont =>
      obtain ⟨σ6, H6, S6, q6⟩ := hsp
      exact q6.elim
    | ret u =>
      obtain ⟨v6, σ6, H6, S6, r6, q6⟩ := hsp
      exact q6.elim
  · cases f with
    | next =>
      obtain ⟨σ', H', J', q⟩ := hsp
      exact wpAny_execs_nil ⟨σ', H', J'.ofTry ok, q⟩
    | brk =>
      obtain ⟨σ', H', J', q⟩ := hsp
      exact ⟨σ', H', J'.ofTry ok, q⟩
    | cont =>
      obtain ⟨σ', H', J', q⟩ := hsp
      exact ⟨σ', H', J'.ofTry ok, q⟩
    | ret u =>
      obtain ⟨v, σ', H', J', r, q⟩ := hsp
      exact ⟨v, σ', H', J'.ofTry ok, r, q⟩
end
end Hl
/-! ### isinstance of what a clause has kept -/
namespace Hl
open PySem PySem.Spec PyProof.Rows L2
/-- isinstance(x, c): a value with a type, or a caught refusal -/
def rIsX (K : PySem.W.Frag) : List V → Hp → VK → Prop := fun xs H Q => ∃ (x c : V) (u : Value) (b : Bool), xs = [x, c] ∧ ClsV c u ∧
  ((∃ t, TyX K H x t ∧ PySem.W.kitOne K t u = some b) ∨ (∃ (a C : Addr) (dd : Option Addr), x = .ref a ∧ H a = some (KeepX C dd a) ∧ (∀ d, dd = some d → ∃ fs, H d = some (.xd fs)) ∧ ExcC K C ∧ PySem.W.kitOne K (.ref C) u = some b)) ∧ Q (.bl b) H
theorem call_isX {X : Cx} : CallR X (.builtin "isinstance") (rIsX X.K) := by
  intro pins s σ H xs us Q I r h
  obtain ⟨x, c, u, b, rfl, k, h, q⟩ := h
  rcases h with ⟨t, ty, e⟩ | ⟨a, C, dd, rfl, ha, hd, hC, e⟩
  · exact call_isi pins s σ H _ us Q I r ⟨x, c, t, u, b, rfl, k, ty, e, q⟩
  · obtain ⟨u1, u2, rfl, r1, r2⟩ := vals2 r
    have e2 := k.eq r2
    subst e2
    cases (show u1 = Value.ref a from r1)
    obtain ⟨⟨oe, vs, hget, hz, hv⟩, _, _⟩ := I.hok a _ ha
    obtain ⟨od, J⟩ : ∃ od, PySem.W.InstAt s.heap a oe C od := by
      have no : PySem.W.notCls oe = true := by unfold PySem.W.notCls; rw [hv] <;> rfl
      cases dd with
      | none => exact ⟨none, hget, hz.1, no, by rw [hz.2]; trivial⟩
      | some d =>
        obtain ⟨fs, hf⟩ := hd d rfl
        have hx : ObjOk X.prog X.w H s.heap d (.xd fs) := I.hok d _ hf
        obtain ⟨mA, hns, hr⟩ := hx
        obtain ⟨o, ho, hl⟩ := lookIn_ns hns
        exact ⟨some o, hget, hz.1, no, by rw [hz.2]; exact ho⟩
    have hcl : (PySem.W.clsIn X.K C).isSome = true := by
      obtain ⟨cd, hc, _⟩ := PySem.W.any_some hC.hd
      rw [hc] <;> rfl
    exact PySem.W.kia_one (PySem.W.kitx_exc hcl hC.hg hC.hk hC.hs hC.ha hC.hn hC.ht hC.hm) I.kIn J e (fun z => nomatch z) fun tk => ⟨.bl b, H, I.kept (t' := tk) fun _ _ z => z, rfl, q⟩
theorem Exc.nm {X : Cx} {x : Str} {C : Addr} (T : Exc X.K X.mg x C) (hg : Gl X x := by rfl) (hdb : (x == ("__debug__" : Str)) = false := by decide) : Names X x (.ref C) := ⟨hg, hdb, .inl T.g⟩
theorem pe_cls {X : Cx} {x : Str} {C : Addr} {pos : Pos} (hm : X.mg x = some (.ref C)) (hg : Gl X x := by rfl) (hd : (x == ("__debug__" : Str)) = false := by decide) : PE X (.Name x pos) (tC (.ref C)) := pe_glob (v := .ref C) hg hm rfl hd
structure ExcG (mg : Str → Option Value) (x : Str) (C : Addr) : Prop where
  g : mg x = some (.ref C)
/-! the program's classes of refusals -/
def errNm : List Str := ["NoRow", "NoCount", "NoRank", "NoPlace", "NoTree", "NoPairs", "NoTurn", "NoText"]
def errAd (K : PySem.W.Frag) (i : Nat) : Addr := He.ga K (errNm.getD i "")
def excB (K : PySem.W.Frag) (D : Addr) : Bool :=
  decide (PySem.W.findIn K (.ref D) "__getattribute__" = some (some (.builtin "BaseException.__getattribute__"))) && (decide (PySem.W.findIn K (.ref D) "__getattr__" = some none) && (decide (PySem.W.subIn K (.ref D) (.type "BaseException") = some true) && (PySem.W.hasDictIn K D &&
  (decide (PySem.W.findIn K (.ref D) "__class__" = some (some (.builtin "object.__class__"))) && (decide (PySem.W.specialIn K (.builtin "object.__class__") "__get__" = some (some (.builtin "getset_descriptor.__get__"))) && (decide (PySem.W.takesIn K (.builtin "object.__class__") = some true) && decide (PySem.W.mroIn K D (.type "object") = some true)))))))
theorem excB_ok {K : PySem.W.Frag} {D : Addr} (h : excB K D = true) : ExcC K D := by
  obtain ⟨h1, h⟩ := He.ba h
  obtain ⟨h2, h⟩ := He.ba h
  obtain ⟨h3, h⟩ := He.ba h
  obtain ⟨h4, h⟩ := He.ba h
  obtain ⟨h5, h⟩ := He.ba h
  obtain ⟨h6, h⟩ := He.ba h
  obtain ⟨h7, h8⟩ := He.ba h
  exact ⟨of_decide_eq_true h1, of_decide_eq_true h2, of_decide_eq_true h3, h4, of_decide_eq_true h5, of_decide_eq_true h6, of_decide_eq_true h7, of_decide_eq_true h8⟩
structure ErrOk (K : PySem.W.Frag) : Prop where
  ex : ∀ i, i < 7 → ExcC K (errAd K i)
  val : ∀ i, i < 7 → PySem.W.kitOne K (.ref (errAd K i)) (.type "ValueError") = some true
  cat : ∀ i, i < 7 → PySem.W.exmOne K (.ref (errAd K i)) (.ref (He.ga K "HillError")) = some true
  one : ∀ i, i < 7 → ∀ j, j < 8 → PySem.W.kitOne K (.ref (errAd K i)) (.ref (errAd K j)) = some (decide (i = j))
  non : ∀ j, j < 8 → PySem.W.kitOne K (.type "NoneType") (.ref (errAd K j)) = some false
def errB (K : PySem.W.Frag) : Bool := ((List.range 8).all fun j => decide (PySem.W.kitOne K (.type "NoneType") (.ref (errAd K j)) = some false)) && (List.range 7).all fun i => excB K (errAd K i) && (decide (PySem.W.kitOne K (.ref (errAd K i)) (.type "ValueError") = some true) && (decide (PySem.W.exmOne K (.ref (errAd K i)) (.ref (He.ga K "HillError")) = some true) &&
  (List.range 8).all fun j => decide (PySem.W.kitOne K (.ref (errAd K i)) (.ref (errAd K j)) = some (decide (i = j)))))
theorem errOk_of {K : PySem.W.Frag} (h : errB K = true) : ErrOk K := by
  have h1 : ∀ i, i < 7 → ExcC K (errAd K i) ∧ PySem.W.kitOne K (.ref (errAd K i)) (.type "ValueError") = some true ∧ PySem.W.exmOne K (.ref (errAd K i)) (.ref (He.ga K "HillError")) = some true ∧ ∀ j, j < 8 → PySem.W.kitOne K (.ref (errAd K i)) (.ref (errAd K j)) = some (decide (i = j)) := fun i hi => by
    have a := List.all_eq_true.mp (He.ba h).2 i (List.mem_range.mpr hi)
    obtain ⟨a1, a⟩ := He.ba a
    obtain ⟨a2, a⟩ := He.ba a
    obtain ⟨a3, a⟩ := He.ba a
    exact ⟨excB_ok a1, of_decide_eq_true a2, of_decide_eq_true a3, fun j hj => of_decide_eq_true (List.all_eq_true.mp a j (List.mem_range.mpr hj))⟩
  exact ⟨fun i hi => (h1 i hi).1, fun i hi => (h1 i hi).2.1, fun i hi => (h1 i hi).2.2.1, fun i hi => (h1 i hi).2.2.2, fun j hj => of_decide_eq_true (List.all_eq_true.mp (He.ba h).1 j (List.mem_range.mpr hj))⟩
/-- the refusal of the class i, kept at a -/
def KeptAt (K : PySem.W.Frag) (i : Nat) (v : V) (H : Hp) : Prop := ∃ a, v = .ref a ∧ H a = some (KeepO (errAd K i) a)
open Evl
theorem KeptAt.mono {K : PySem.W.Frag} {i : Nat} {v : V} {H H' : Hp} (h : KeptAt K i v H) (e : Ex H H') : KeptAt K i v H' := let ⟨a, h1, h2⟩ := h; ⟨a, h1, e a _ h2⟩
section
variable {K : PySem.W.Frag} {σ : L2.St} {H : Hp} {ta tb : TE}
theorem ev_isXr {i j : Nat} {v : V} (R : ErrOk K) (hi : i < 7) (hj : j < 8) (hv : KeptAt K i v H) (h1 : Ev ta σ H v) (h2 : Ev tb σ H (.ref (errAd K j))) : Ev (tCB (rIsX K) (tCons ta (tCons tb tNil))) σ H (.bl (decide (i = j))) :=
  ev_cb (ea_cons h1 (ea_cons h2 ea_nil)) fun H1 e Q q => by
    obtain ⟨a, rfl, ha⟩ := hv
    exact ⟨_, _, _, _, rfl, .own _, .inr ⟨a, _, none, rfl, e a _ ha, (fun d z => nomatch z), R.ex i hi, R.one i hi j hj⟩, q H1 (Ex.refl H1)⟩
theorem ev_isXv {i : Nat} {v : V} (R : ErrOk K) (hi : i < 7) (hv : KeptAt K i v H) (h1 : Ev ta σ H v) (h2 : Ev tb σ H (.ty "ValueError")) : Ev (tCB (rIsX K) (tCons ta (tCons tb tNil))) σ H (.bl true) :=
  ev_cb (ea_cons h1 (ea_cons h2 ea_nil)) fun H1 e Q q => by
    obtain ⟨a, rfl, ha⟩ := hv
    exact ⟨_, _, _, _, rfl, .ty _, .inr ⟨a, _, none, rfl, e a _ ha, (fun d z => nomatch z), R.ex i hi, R.val i hi⟩, q H1 (Ex.refl H1)⟩
theorem ev_isXn {j : Nat} (R : ErrOk K) (hj : j < 8) (h1 : Ev ta σ H .non) (h2 : Ev tb σ H (.ref (errAd K j))) : Ev (tCB (rIsX K) (tCons ta (tCons tb tNil))) σ H (.bl false) :=
  ev_cb (ea_cons h1 (ea_cons h2 ea_nil)) fun H1 e Q q => ⟨_, _, _, _, rfl, .own _, .inl ⟨_, .base .non, R.non j hj⟩, q H1 (Ex.refl H1)⟩
/-- both stand -/
theorem el_catVV {a b : Addr} {xs ys : List V} (ha : Ev ta σ H (.ref a)) (h : H a = some (.lst xs)) (hb : Ev tb σ H (.ref b)) (h2 : H b = some (.lst ys)) (hz : xs.length + ys.length ≤ 100000) : EvL (tOp rCat ta tb) σ H (xs ++ ys) := fun H1 e Q q =>
  ha H1 e _ fun H2 e2 => hb H2 (e.trans e2) _ fun H3 e3 => ⟨a, b, xs, ys, rfl, rfl, ((e.trans e2).trans e3) a _ h, ((e.trans e2).trans e3) b _ h2, sz_of hz, fun p np => q p _ (fresh_back (e2.trans e3) np) ((e2.trans e3).trans (Ex.new np)) upd_same⟩
/-- sep.join(a new list) -/
theorem ev_joinL {a : Str} {ys : List Str} (h1 : Ev ta σ H (.str a)) (h2 : EvL tb σ H (ys.map V.str)) (hz : (ys.map (·.length)).sum + ys.length * a.length ≤ 16777216) :
    Ev (tM1 (fun x xs H Q => ∃ a p, ∃ ys : List Str, x = .str a ∧ xs = [.ref p] ∧ (SqL K H p (ys.map V.str) ∨ SqT K H p (ys.map V.str)) ∧ (ys.map (·.length)).sum + ys.length * a.length ≤ 16777216 ∧ Q (.str (Txt.join a ys)) H) ta tb) σ H (.str (Txt.join a ys)) := fun H1 e Q q =>
  h1 H1 e _ fun H2 e2 => ⟨⟨a, rfl⟩, h2 H2 (e.trans e2) _ fun p H3 _ e3 hp => ⟨a, p, ys, rfl, rfl, .inl (sq_of hp), hz, q H3 (e2.trans e3)⟩⟩
/-- sep.join(a list that stands) -/
theorem ev_joinV {a : Str} {p : Addr} {ys : List Str} (h1 : Ev ta σ H (.str a)) (h2 : Ev tb σ H (.ref p)) (hp : SqL K H p (ys.map V.str)) (hz : (ys.map (·.length)).sum + ys.length * a.length ≤ 16777216) :
    Ev (tM1 (fun x xs H Q => ∃ a p, ∃ ys : List Str, x = .str a ∧ xs = [.ref p] ∧ (SqL K H p (ys.map V.str) ∨ SqT K H p (ys.map V.str)) ∧ (ys.map (·.length)).sum + ys.length * a.length ≤ 16777216 ∧ Q (.str (Txt.join a ys)) H) ta tb) σ H (.str (Txt.join a ys)) := fun H1 e Q q =>
  h1 H1 e _ fun H2 e2 => ⟨⟨a, rfl⟩, h2 H2 (e.trans e2) _ fun H3 e3 => ⟨a, p, ys, rfl, rfl, .inl (ex_l ((e.trans e2).trans e3) hp), hz, q H3 (e2.trans e3)⟩⟩
end
end Hl
/-! Texts in order, lists of texts, deep equality of lists. -/
namespace Hl
open PySem PySem.Spec PyProof.Rows L2 Evl
theorem lt_trans_n : ∀ {a b c : List Nat}, ltCps b a = false → ltCps c b = false → ltCps c a = false
  | [], _, [], _, _ => rfl
  | [], [], c :: cs, _, h => h
  | [], b :: bs, c :: cs, _, _ => rfl
  | a :: as, [], _, h, _ => by cases h
  | a :: as, b :: bs, [], _, h => by cases h
  | a :: as, b :: bs, c :: cs, h1, h2 => by
    simp [ltCps] at h1 h2 ⊢
    refine ⟨by omega, fun e => ?_⟩
    have e1 : a = b := by omega
    subst e1
    subst e
    exact lt_trans_n (h1.2 rfl) (h2.2 rfl)
theorem lt_anti_n : ∀ {a b : List Nat}, ltCps b a = false → ltCps a b = false → a = b
  | [], [], _, _ => rfl
  | [], b :: bs, _, h => by cases h
  | a :: as, [], h, _ => by cases h
  | a :: as, b :: bs, h1, h2 => by
    simp [ltCps] at h1 h2
    have e : a = b := by omega
    subst e
    rw [lt_anti_n (h1.2 rfl) (h2.2 rfl)]
def leS (a b : Str) : Prop := ltCps b.cps.toList a.cps.toList = false
theorem leS_anti {a b : Str} (h1 : leS a b) (h2 : leS b a) : a = b := by
  have := lt_anti_n h1 h2
  cases a
  cases b
  congr 1
  exact Array.toList_inj.mp this
theorem rising_all : ∀ {l : List Str} {p : Str}, risingS p l = true → l.Pairwise leS ∧ ∀ x ∈ l, leS p x
  | [], p, _ => ⟨.nil, fun _ h => by cases h⟩
  | x :: r, p, h => by
    have h2 : (!ltCps x.cps.toList p.cps.toList && risingS x r) = true := h
    rw [Bool.and_eq_true, Bool.not_eq_true'] at h2
    obtain ⟨h3, h4⟩ := rising_all h2.2
    refine ⟨List.pairwise_cons.mpr ⟨h4, h3⟩, fun y hy => ?_⟩
    rcases List.mem_cons.mp hy with e | hy
    · rw [e]
      exact h2.1
    · exact lt_trans_n h2.1 (h4 y hy)
theorem sorted_pw : ∀ {l : List Str}, sortedS l = true → l.Pairwise leS
  | [], _ => .nil
  | x :: r, h => by
    obtain ⟨h3, h4⟩ := rising_all (show risingS x r = true from h)
    exact List.pairwise_cons.mpr ⟨h4, h3⟩
theorem sorted_uniq {xs ys : List Str} (hp : ys.Perm xs) (h1 : sortedS ys = true) (h2 : xs.Pairwise leS) : ys = xs :=
  List.Perm.eq_of_pairwise (le := leS) (fun _ _ _ _ a b => leS_anti a b) (sorted_pw h1) h2 hp
section
variable {K : PySem.W.Frag} {σ : L2.St} {H : Hp} {ta tb : TE}
theorem el_sortedS {a : Addr} {xs : List Str} (h : Ev ta σ H (.ref a)) (hs : SqL K H a (xs.map V.str)) (hl : xs.length < 64) (hp : xs.Pairwise leS) : EvL (tCB (rSortedS K) (tCons ta tNil)) σ H (xs.map V.str) :=
  el_cb (ea_cons h ea_nil) fun H1 e Q q => ⟨a, xs, rfl, ex_l e hs, hl, fun ys p hperm hsort hn => by
    rw [sorted_uniq hperm hsort hp]
    exact q p _ hn (Ex.new hn) upd_same⟩
/-! deep equality -/
theorem canLay_strs : ∀ {xs : List Str}, (∀ x ∈ xs, x.cps.all (· < 0x110000) = true) → PyData.canLayAll0 (xs.map PyData.str) = true
  | [], _ => by simp [PyData.canLayAll0]
  | n :: r, h => by
    have h1 := h n (List.mem_cons_self ..)
    have h2 := canLay_strs fun x hx => h x (List.mem_cons_of_mem _ hx)
    simp only [List.map_cons, PyData.canLayAll0, PyData.canLay0, h2, Bool.and_true]
    exact h1
theorem depth_strs : ∀ xs : List Str, PyData.depthAll (xs.map PyData.str) ≤ 1
  | [] => by simp [PyData.depthAll]
  | n :: r => by
    have := depth_strs r
    simp only [List.map_cons, PyData.depthAll, PyData.depth]
    omega
theorem shaped_strs {xs : List Str} (h : ∀ x ∈ xs, x.cps.all (· < 0x110000) = true) : SeqAt.shaped (.list (xs.map PyData.str)) = true := by
  have h1 := depth_strs xs
  have h2 : PyData.depth (.list (xs.map PyData.str)) ≤ 64 := by simp only [PyData.depth]; omega
  show (PyData.canLay0 _ && decide (PyData.depth _ ≤ 64)) = true
  rw [Bool.and_eq_true]
  exact ⟨by simp only [PyData.canLay0]; exact canLay_strs h, decide_eq_true h2⟩
theorem canLay_ints : ∀ ns : List Int, PyData.canLayAll0 (ns.map PyData.int) = true
  | [] => by simp [PyData.canLayAll0]
  | n :: r => by simp [PyData.canLayAll0, PyData.canLay0, canLay_ints r]
theorem depth_ints : ∀ ns : List Int, PyData.depthAll (ns.map PyData.int) ≤ 1
  | [] => by simp [PyData.depthAll]
  | n :: r => by
    have := depth_ints r
    simp only [List.map_cons, PyData.depthAll, PyData.depth]
    omega
theorem shaped_ints (ns : List Int) : SeqAt.shaped (.list (ns.map PyData.int)) = true := by
  have h1 := depth_ints ns
  have h2 : PyData.depth (.list (ns.map PyData.int)) ≤ 64 := by simp only [PyData.depth]; omega
  show (PyData.canLay0 _ && decide (PyData.depth _ ≤ 64)) = true
  rw [Bool.and_eq_true]
  exact ⟨by simp only [PyData.canLay0]; exact canLay_ints ns, decide_eq_true h2⟩
theorem dp_strs (H : Hp) : ∀ xs : List Str, DpAll K H (xs.map V.str) (xs.map PyData.str)
  | [] => .nil
  | x :: r => .cons (.str x) (dp_strs H r)
theorem dp_ints (H : Hp) : ∀ xs : List Int, DpAll K H (xs.map V.int) (xs.map PyData.int)
  | [] => .nil
  | x :: r => .cons (.int x) (dp_ints H r)
theorem eqv_self {d : PyData} (h : SeqAt.shaped d = true) : PyData.eqv d d = true := PySem.SeqAt.eqv_refl d (SeqAt.canLay_of_shaped h)
theorem rv_neD {x y : V} {d e : PyData} (hx : ∀ H1, Ex H H1 → Dp K H1 x d) (hy : ∀ H1, Ex H H1 → Dp K H1 y e) (hd : SeqAt.shaped d = true) (he : SeqAt.shaped e = true) : RV (rNeD K) x y H (.bl (!PyData.eqv d e)) := fun H1 ex Q q => ⟨d, e, hx H1 ex, hy H1 ex, hd, he, q H1 (Ex.refl H1)⟩
theorem rv_eqD {x y : V} {d e : PyData} (hx : ∀ H1, Ex H H1 → Dp K H1 x d) (hy : ∀ H1, Ex H H1 → Dp K H1 y e) (hd : SeqAt.shaped d = true) (he : SeqAt.shaped e = true) : RV (rEqD K) x y H (.bl (PyData.eqv d e)) := fun H1 ex Q q => ⟨d, e, hx H1 ex, hy H1 ex, hd, he, q H1 (Ex.refl H1)⟩
/-- the text lists are the same: the left one stands, the right one is new -/
theorem ev_neStrs {a : Addr} {xs : List Str} (h1 : Ev ta σ H (.ref a)) (hs : SqL K H a (xs.map V.str)) (h2 : EvL tb σ H (xs.map V.str)) (hx : ∀ x ∈ xs, x.cps.all (· < 0x110000) = true) : Ev (tOp (rNeD K) ta tb) σ H (.bl false) :=
  ev_is (ev_opL h1 h2 fun p H1 hp e => rv_neD (d := .list (xs.map .str)) (e := .list (xs.map .str)) (fun H2 e2 => .lst (ex_l (e.trans e2) hs) (dp_strs H2 xs)) (fun H2 e2 => .lst (sq_of (e2 p _ hp)) (dp_strs H2 xs)) (shaped_strs hx) (shaped_strs hx)) (by rw [eqv_self (shaped_strs hx)]; rfl)
end
theorem rowS_cps (w : List Bool) : (rowS w).cps.toList = w.map sg := by unfold rowS; simp
theorem rowS_chars (w : List Bool) : (rowS w).cps.all (· < 0x110000) = true := by
  rw [← Array.all_toList, rowS_cps, List.all_map, List.all_eq_true]
  intro b _
  cases b <;> rfl
theorem dec_ne {a b : V} (h : a = b) : (!decide (a = b)) = false := by rw [decide_eq_true h]; rfl
theorem rv_neN {a b : V} {H : Hp} (hs : scal a b = true) (h : a = b) : RV rNe a b H (.bl false) := fun H1 e Q q => rv_ne (H := H) hs H1 e Q (fun H2 e2 => by rw [dec_ne h]; exact q H2 e2)
theorem join_signs (l : List Bool) : Txt.join "" (l.map fun b => rowS [b]) = rowS l := by
  have e1 : ("" : Str) = SX.S [] := lit_e
  have e2 : (l.map fun b => rowS [b]) = (l.map fun b => [sg b]).map SX.S := by rw [List.map_map]; rfl
  rw [e1, e2, SX.join_S]
  clear e1 e2
  unfold rowS
  congr 1
  induction l with
  | nil => rfl
  | cons b l ih =>
    cases l with
    | nil => rfl
    | cons c l =>
      show sg b :: ([] ++ TL.joinL [] ((c :: l).map fun b => [sg b])) = _
      rw [ih]
      rfl
theorem et_yes {σ : L2.St} {H : Hp} : EvT tYes σ H true := fun H1 _ Q q => q H1 (Ex.refl H1)
theorem ev_m1 {σ : L2.St} {H : Hp} {to te : TE} {r : V → List V → Hp → VK → Prop} {a : Str} {y z : V} (h1 : Ev to σ H (.str a)) (h2 : Ev te σ H y) (hr : ∀ H1, Ex H H1 → ∀ Q : VK, (∀ H2, Ex H1 H2 → Q z H2) → r (.str a) [y] H1 Q) : Ev (tM1 r to te) σ H z := fun H1 e Q q =>
  h1 H1 e _ fun H2 e2 => ⟨⟨a, rfl⟩, h2 H2 (e.trans e2) _ fun H3 e3 => hr H3 ((e.trans e2).trans e3) Q fun H4 e4 => q H4 ((e2.trans e3).trans e4)⟩
end Hl
/-! ### greatest, least; slices of rows; loops over new tuples; new lists written -/
namespace Hl
open PySem PySem.Spec PyProof.Rows L2 Evl
def maxI : List Int → Int
  | [] => 0
  | [x] => x
  | x :: y :: r => if x ≤ maxI (y :: r) then maxI (y :: r) else x
def minI : List Int → Int
  | [] => 0
  | [x] => x
  | x :: y :: r => if minI (y :: r) ≤ x then minI (y :: r) else x
theorem maxI_spec : ∀ l : List Int, l ≠ [] → maxI l ∈ l ∧ ∀ y ∈ l, y ≤ maxI l
  | [], h => absurd rfl h
  | [x], _ => ⟨List.mem_singleton.mpr rfl, fun y hy => by rw [List.mem_singleton.mp hy]; exact Int.le_refl _⟩
  | x :: y :: r, _ => by
    obtain ⟨h1, h2⟩ := maxI_spec (y :: r) (by simp)
    unfold maxI
    split
    · rename_i hx
      refine ⟨List.mem_cons_of_mem _ h1, fun z hz => ?_⟩
      rcases List.mem_cons.mp hz with e | hz
      · rw [e]; exact hx
      · exact h2 z hz
    · rename_i hx
      refine ⟨List.mem_cons_self, fun z hz => ?_⟩
      rcases List.mem_cons.mp hz with e | hz
      · rw [e]; exact Int.le_refl _
      · have := h2 z hz
        omega
theorem minI_spec : ∀ l : List Int, l ≠ [] → minI l ∈ l ∧ ∀ y ∈ l, minI l ≤ y
  | [], h => absurd rfl h
  | [x], _ => ⟨List.mem_singleton.mpr rfl, fun y hy => by rw [List.mem_singleton.mp hy]; exact Int.le_refl _⟩
  | x :: y :: r, _ => by
    obtain ⟨h1, h2⟩ := minI_spec (y :: r) (by simp)
    unfold minI
    split
    · rename_i hx
      refine ⟨List.mem_cons_of_mem _ h1, fun z hz => ?_⟩
      rcases List.mem_cons.mp hz with e | hz
      · rw [e]; exact hx
      · exact h2 z hz
    · rename_i hx
      refine ⟨List.mem_cons_self, fun z hz => ?_⟩
      rcases List.mem_cons.mp hz with e | hz
      · rw [e]; exact Int.le_refl _
      · have := h2 z hz
        omega
theorem maxI_of {l : List Int} {m : Int} (h1 : m ∈ l) (h2 : ∀ y ∈ l, y ≤ m) : maxI l = m := by
  obtain ⟨a, b⟩ := maxI_spec l (by rintro rfl; cases h1)
  exact Int.le_antisymm (h2 _ a) (b _ h1)
theorem minI_of {l : List Int} {m : Int} (h1 : m ∈ l) (h2 : ∀ y ∈ l, m ≤ y) : minI l = m := by
  obtain ⟨a, b⟩ := minI_spec l (by rintro rfl; cases h1)
  exact Int.le_antisymm (b _ h1) (h2 _ a)
section
variable {K : PySem.W.Frag} {σ : L2.St} {H : Hp} {ta tb tc te : TE} {D : Ends} {tu tz : TS} {xs ys : List V} {v y z : V}
theorem ev_maxV {p : Addr} {ns : List Int} (h1 : Ev ta σ H (.ref p)) (hS : SqL K H p (ns.map V.int)) (h0 : 0 < ns.length) : Ev (tCB (rMax K) (tCons ta tNil)) σ H (.int (maxI ns)) := fun H1 e Q q =>
  h1 H1 e _ fun H2 e2 => ⟨p, ns, rfl, ex_l (e.trans e2) hS, h0, fun m hm hle => by rw [← maxI_of hm hle]; exact q H2 e2⟩
theorem ev_minV {p : Addr} {ns : List Int} (h1 : Ev ta σ H (.ref p)) (hS : SqL K H p (ns.map V.int)) (h0 : 0 < ns.length) : Ev (tCB (rMin K) (tCons ta tNil)) σ H (.int (minI ns)) := fun H1 e Q q =>
  h1 H1 e _ fun H2 e2 => ⟨p, ns, rfl, ex_l (e.trans e2) hS, h0, fun m hm hle => by rw [← minI_of hm hle]; exact q H2 e2⟩
theorem ev_maxN {ns : List Int} (h1 : EvL ta σ H (ns.map V.int)) (h0 : 0 < ns.length) : Ev (tCB (rMax K) (tCons ta tNil)) σ H (.int (maxI ns)) := fun H1 e Q q =>
  h1 H1 e _ fun p H2 _ e2 hp => ⟨p, ns, rfl, sq_of hp, h0, fun m hm hle => by rw [← maxI_of hm hle]; exact q H2 e2⟩
theorem ev_minN {ns : List Int} (h1 : EvL ta σ H (ns.map V.int)) (h0 : 0 < ns.length) : Ev (tCB (rMin K) (tCons ta tNil)) σ H (.int (minI ns)) := fun H1 e Q q =>
  h1 H1 e _ fun p H2 _ e2 hp => ⟨p, ns, rfl, sq_of hp, h0, fun m hm hle => by rw [← minI_of hm hle]; exact q H2 e2⟩
/-! slices of rows -/
theorem ev_slT {tl th : TO} {x : Str} {lo hi : Option Int} (h : Ev te σ H (.str x)) (h1 : EvO tl σ H lo) (h2 : EvO th σ H hi) (hz : x.length ≤ 100000) : Ev (tSl C8.rSlX te tl th) σ H (.str (Txt.slice x lo hi)) := fun H1 e Q q =>
  h H1 e _ fun H2 e2 => h1 H2 (e.trans e2) _ fun H3 e3 => h2 H3 ((e.trans e2).trans e3) _ fun H4 e4 => ⟨x, rfl, sz_of hz, q H4 ((e2.trans e3).trans e4)⟩
theorem row_to (w : List Bool) (n : Nat) : Txt.slice (rowS w) none (some (n : Int)) = rowS (w.take n) := by
  unfold rowS
  rw [SX.slice_to (by omega), List.map_take]
  rfl
theorem row_from (w : List Bool) (n : Nat) : Txt.slice (rowS w) (some (n : Int)) none = rowS (w.drop n) := by
  unfold rowS
  rw [SX.slice_from (by omega), List.map_drop]
  rfl
theorem ev_rowTo {w : List Bool} {n : Nat} {th : TO} (hl : w.length ≤ 90000) (h : Ev te σ H (.str (rowS w))) (h2 : EvO th σ H (some (n : Int))) : Ev (tSl C8.rSlX te tNoPart th) σ H (.str (rowS (w.take n))) :=
  ev_is (ev_slT h eo_none h2 (by rw [rowS_len]; omega)) (by rw [row_to])
theorem ev_rowFrom {w : List Bool} {n : Nat} {tl : TO} (hl : w.length ≤ 90000) (h : Ev te σ H (.str (rowS w))) (h2 : EvO tl σ H (some (n : Int))) : Ev (tSl C8.rSlX te tl tNoPart) σ H (.str (rowS (w.drop n))) :=
  ev_is (ev_slT h h2 eo_none (by rw [rowS_len]; omega)) (by rw [row_from])
/-- texts put together -/
theorem ev_add {x y : Str} (h1 : Ev ta σ H (.str x)) (h2 : Ev tb σ H (.str y)) (hl : x.length + y.length ≤ 100000) : Ev (tOp (fun x y H Q => ∃ i j, x = .str i ∧ y = .str j ∧ i.length + j.length ≤ sizeLine ∧ Q (.str (i ++ j)) H) ta tb) σ H (.str (x ++ y)) := ev_op h1 h2 (rv_add hl)
theorem ev_addR {a b : List Bool} (h1 : Ev ta σ H (.str (rowS a))) (h2 : Ev tb σ H (.str (rowS b))) (hl : a.length + b.length ≤ 90000) : Ev (tOp (fun x y H Q => ∃ i j, x = .str i ∧ y = .str j ∧ i.length + j.length ≤ sizeLine ∧ Q (.str (i ++ j)) H) ta tb) σ H (.str (rowS (a ++ b))) :=
  ev_is (ev_add h1 h2 (by rw [rowS_len, rowS_len]; omega)) (by rw [rowS_cat])
theorem len_cat (x y : Str) : (x ++ y).length = x.length + y.length := by
  rw [← SX.S_tl x, ← SX.S_tl y, SX.S_cat, SX.S_len, SX.S_len, SX.S_len, List.length_append]
theorem cps_cat (x y : Str) : (x ++ y).cps.toList = x.cps.toList ++ y.cps.toList := by
  rw [← SX.S_tl x, ← SX.S_tl y, SX.S_cat]
/-- a text with another sign is no row -/
theorem unrow_bad {z : Str} {c : Nat} (h : c ∈ z.cps.toList) (hc : isSg c = false) : unrow z = none := by
  unfold unrow
  rw [if_neg]
  intro a
  have := List.all_eq_true.mp a c h
  rw [hc] at this
  cases this
theorem unrow_mid {x y b : Str} {c : Nat} (h : c ∈ b.cps.toList) (hc : isSg c = false) : unrow (x ++ b ++ y) = none := unrow_bad (c := c) (by
  rw [cps_cat, cps_cat]
  simp [h]) hc
/-! loops over new tuples -/
theorem s_forNTn {j : Nat} {tl : TE} (h : EvU tl σ H xs) (Pv : Addr → Nat → L2.St → Hp → Prop) (h0 : ∀ p H1, H p = none → Ex H H1 → H1 p = some (.tup xs) → Pv p 0 σ H1) (hl : ∀ p i σ' H', i ≤ xs.length → Pv p i σ' H' → SqT K H' p xs)
    (hs : ∀ p i x σ' H', xs[i]? = some x → Pv p i σ' H' → tu { D with nx := Pv p (i + 1), ct := Pv p (i + 1), bk := D.nx } (σ'.set j (some x)) H') (hd : ∀ p σ' H', Pv p xs.length σ' H' → D.nx σ' H') : tFor (iTup K tl) (gName j) tu D σ H :=
  h H (Ex.refl H) _ fun p H1 hp e h1 => ⟨p, rfl, ⟨xs, st_of h1⟩, for_tup (Pv p) (h0 p H1 hp e h1) (hl p) (hs p) (hd p)⟩
theorem q_forNTn {j : Nat} {tl : TE} (h : EvU tl σ H xs) (Pv : Addr → Nat → L2.St → Hp → Prop) (h0 : ∀ p H1, H p = none → Ex H H1 → H1 p = some (.tup xs) → Pv p 0 σ H1) (hl : ∀ p i σ' H', i ≤ xs.length → Pv p i σ' H' → SqT K H' p xs)
    (hs : ∀ p i x σ' H', xs[i]? = some x → Pv p i σ' H' → tu { D with nx := Pv p (i + 1), ct := Pv p (i + 1), bk := tz D } (σ'.set j (some x)) H') (hd : ∀ p σ' H', Pv p xs.length σ' H' → tz D σ' H') : tSeq (tFor (iTup K tl) (gName j) tu) tz D σ H :=
  s_forNTn (D := { D with nx := tz D }) h Pv h0 hl hs hd
/-- f(..).append(v): a new list is written, nothing else -/
theorem q_appN (ha : EvL ta σ H xs) (h : ∀ H1, Ex H H1 → Ev te σ H1 v) (hz : xs.length < 100000) (k : ∀ H1, Ex H H1 → tz D σ H1) : tSeq (tDrop (tBM K "list" rAppend ta (tCons te tNil))) tz D σ H :=
  ha H (Ex.refl H) _ fun p H1 np e1 hp => ⟨Or.inl ⟨rfl, xs, sq_of hp⟩, h H1 e1 H1 (Ex.refl H1) _ fun H2 e2 => ⟨p, xs, v, rfl, rfl, e2 p _ hp, sz_lt hz, k _ ((e1.trans e2).mut np)⟩⟩
/-! lists of numbers compared -/
theorem ev_neIntsL {a : Addr} {ns : List Int} (h1 : EvL ta σ H (ns.map V.int)) (h2 : ∀ H1, Ex H H1 → Ev tb σ H1 (.ref a)) (hs : SqL K H a (ns.map V.int)) : Ev (tOp (rNeD K) ta tb) σ H (.bl false) :=
  ev_is (ev_opL1 h1 h2 fun p H1 hp e => rv_neD (d := .list (ns.map .int)) (e := .list (ns.map .int)) (fun H2 e2 => .lst (sq_of (e2 p _ hp)) (dp_ints H2 ns)) (fun H2 e2 => .lst (ex_l (e.trans e2) hs) (dp_ints H2 ns)) (shaped_ints ns) (shaped_ints ns)) (by rw [eqv_self (shaped_ints ns)]; rfl)
theorem ev_intB {b : Bool} (h1 : Ev ta σ H (.bl b)) : Ev (tCB (fun xs H Q => (∃ i, xs = [.int i] ∧ Q (.int i) H) ∨ ∃ k, xs = [.bl k] ∧ Q (.int (if k = true then 1 else 0)) H) (tCons ta tNil)) σ H (.int (if b = true then 1 else 0)) :=
  ev_cb (ea_cons h1 ea_nil) fun H1 _ Q q => .inr ⟨b, rfl, q H1 (Ex.refl H1)⟩
/-! the law's try -/
theorem s_dropD {sp : Sp} {dvs : List V} {E : L2.St → XK} {tA : TA} (h : tDrop (tCall sp dvs (E σ) tA) D σ H) : tDrop (tCallD sp dvs E tA) D σ H := h
theorem s_asgD {sp : Sp} {dvs : List V} {E : L2.St → XK} {tA : TA} {g : TG} (h : tAsg (tCall sp dvs (E σ) tA) g D σ H) : tAsg (tCallD sp dvs E tA) g D σ H := h
theorem keep_std {i j k : Nat} (R : ErrOk K) (hk : k < 7) (hi : i < σ.length) (hij : i ≠ j) (q : ∀ a H', Ex H H' → H' a = some (KeepO (errAd K k) a) → D.nx (((σ.set i (some (.ref a))).set j (some (.ref a))).set i none) H') :
    wKeep K (.ref (He.ga K "HillError")) i (fun _ => tAsg (tVar i) (gName j)) D (.ref (errAd K k)) none σ H :=
  ⟨R.cat k hk, _, rfl, fun a na => ⟨.ref a, List.getElem?_set_self hi, fun n2 => q a _ (Ex.new na) upd_same⟩⟩
theorem q_tryX {tb : WX → TS} {i j : Nat} (R : ErrOk K) (k : Nat) (hk : k < 7) (hi : i < σ.length) (hij : i ≠ j) (q : ∀ a H', Ex H H' → KeptAt K k (.ref a) H' → tz D (((σ.set i (some (.ref a))).set j (some (.ref a))).set i none) H')
    (hb : ∀ W : WX, rx (errAd K k) H (fun cls d H' => W cls d σ H') → tb W { D with nx := tz D } σ H) : tSeq (tTryK K (.ref (He.ga K "HillError")) i (fun _ => tAsg (tVar i) (gName j)) tb) tz D σ H :=
  hb _ fun H1 e => keep_std R hk hi hij fun a H' e' ha => q a H' (e.trans e') ⟨a, rfl, ha⟩
theorem q_tryN {tb : WX → TS} {c : Value} {i : Nat} {ts : Addr → TS} (hb : ∀ W : WX, tb W { D with nx := tz D } σ H) : tSeq (tTryK K c i ts tb) tz D σ H := hb _
end
end Hl
/-! ### new lists: turned, sliced, laid anew -/
namespace Hl
open PySem PySem.Spec PyProof.Rows L2 Evl
section
variable {K : PySem.W.Frag} {σ : L2.St} {H : Hp} {ta tb te : TE} {xs ys : List V}
theorem el_revL {a : Addr} (h : Ev te σ H (.ref a)) (hs : SqL K H a xs) : EvL (tRevL K te) σ H xs.reverse := fun H1 e Q q =>
  h H1 e _ fun H2 e2 => ⟨a, xs, rfl, ex_l (e.trans e2) hs, fun p hp => q p _ (fresh_back e2 hp) (e2.trans (Ex.new hp)) upd_same⟩
theorem el_slN {tl th : TO} {lo hi : Option Int} (h : EvL te σ H xs) (h1 : ∀ H1, Ex H H1 → EvO tl σ H1 lo) (h2 : ∀ H1, Ex H H1 → EvO th σ H1 hi) : EvL (tSl (rSlL K) te tl th) σ H (cutV xs lo hi) := fun H1 e Q q =>
  h H1 e _ fun a H2 _ e2 ha => h1 H2 (e.trans e2) H2 (Ex.refl H2) _ fun H3 e3 => h2 H3 ((e.trans e2).trans e3) H3 (Ex.refl H3) _ fun H4 e4 =>
    ⟨a, xs, rfl, sq_of ((e3.trans e4) a _ ha), fun p hp => q p _ (fresh_back ((e2.trans e3).trans e4) hp) (((e2.trans e3).trans e4).trans (Ex.new hp)) upd_same⟩
theorem el_listOf {a : Addr} (h : Ev ta σ H (.ref a)) (hs : SqL K H a xs) : EvL (tCB (fun xs H Q => ∃ p ys, xs = [.ref p] ∧ (SqL K H p ys ∨ SqT K H p ys) ∧ ∀ l, H l = none → Q (.ref l) (upd H l (.lst ys))) (tCons ta tNil)) σ H xs :=
  el_cb (ea_cons h ea_nil) fun H1 e Q q => ⟨a, xs, rfl, .inl (ex_l e hs), fun l hl => q l _ hl (Ex.new hl) upd_same⟩
/-- f(a new list, ..) -/
theorem ev_callL {sp : Sp} {dvs vs : List V} {E : XK} {tr : TA} {z : V} (h1 : EvL ta σ H xs) (h2 : ∀ H1, Ex H H1 → EvA tr σ H1 vs) (hs : ∀ p H1, Ex H H1 → H1 p = some (.lst xs) → SpV sp (.ref p :: vs ++ dvs) H1 z) : Ev (tCall sp dvs E (tCons ta tr)) σ H z := fun H1 e Q q =>
  h1 H1 e _ fun p H2 _ e2 hp => h2 H2 (e.trans e2) H2 (Ex.refl H2) _ fun H3 e3 => hs p H3 ((e.trans e2).trans e3) (e3 p _ hp) H3 (Ex.refl H3) Q (fun H4 e4 => q H4 ((e2.trans e3).trans e4)) E
theorem ev_neIntsLL {ns : List Int} (h1 : EvL ta σ H (ns.map V.int)) (h2 : EvL tb σ H (ns.map V.int)) : Ev (tOp (rNeD K) ta tb) σ H (.bl false) :=
  ev_is (ev_opLL h1 h2 fun p q H1 hp hq e => rv_neD (d := .list (ns.map .int)) (e := .list (ns.map .int)) (fun H2 e2 => .lst (sq_of (e2 p _ hp)) (dp_ints H2 ns)) (fun H2 e2 => .lst (sq_of (e2 q _ hq)) (dp_ints H2 ns)) (shaped_ints ns) (shaped_ints ns)) (by rw [eqv_self (shaped_ints ns)]; rfl)
theorem ev_neStrsV {a b : Addr} {zs : List Str} (h1 : Ev ta σ H (.ref a)) (hs : SqL K H a (zs.map V.str)) (h2 : Ev tb σ H (.ref b)) (hb : SqL K H b (zs.map V.str)) (hx : ∀ x ∈ zs, x.cps.all (· < 0x110000) = true) : Ev (tOp (rNeD K) ta tb) σ H (.bl false) :=
  ev_is (ev_op h1 h2 (rv_neD (d := .list (zs.map .str)) (e := .list (zs.map .str)) (fun H2 e2 => .lst (ex_l e2 hs) (dp_strs H2 zs)) (fun H2 e2 => .lst (ex_l e2 hb) (dp_strs H2 zs)) (shaped_strs hx) (shaped_strs hx))) (by rw [eqv_self (shaped_strs hx)]; rfl)
end
end Hl
/-! ### more of lists -/
namespace Hl
open PySem PySem.Spec PyProof.Rows L2 Evl
theorem cut_to (xs : List V) (j : Nat) : cutV xs none (some (j : Int)) = xs.take j := by
  unfold cutV
  rw [HT.sIx_none, show HT.sIx xs.length xs.length (some (j : Int)) = min j xs.length from HT.sIx_nat _ _ _, List.drop_zero, Nat.sub_zero]
  by_cases h : j ≤ xs.length
  · rw [Nat.min_eq_left h]
  · rw [Nat.min_eq_right (by omega), List.take_length, List.take_of_length_le (by omega)]
theorem cut_from (xs : List V) (j : Nat) : cutV xs (some (j : Int)) none = xs.drop j := by
  unfold cutV
  rw [HT.sIx_none, show HT.sIx xs.length 0 (some (j : Int)) = min j xs.length from HT.sIx_nat _ _ _]
  by_cases h : j ≤ xs.length
  · rw [Nat.min_eq_left h]
    exact List.take_of_length_le (by rw [List.length_drop]; omega)
  · rw [Nat.min_eq_right (by omega), List.drop_length, List.drop_of_length_le (by omega), List.take_nil]
theorem cut_mid (xs : List V) {i j : Nat} (h1 : i ≤ j) (h2 : j ≤ xs.length) : cutV xs (some (i : Int)) (some (j : Int)) = (xs.drop i).take (j - i) := by
  unfold cutV
  rw [show HT.sIx xs.length 0 (some (i : Int)) = min i xs.length from HT.sIx_nat _ _ _, show HT.sIx xs.length xs.length (some (j : Int)) = min j xs.length from HT.sIx_nat _ _ _, Nat.min_eq_left (show i ≤ xs.length by omega), Nat.min_eq_left h2]
theorem given_range' (n : Nat) (f : Nat → V) : given n (fun _ => true) f = (List.range n).map f := by
  unfold given
  rw [List.filter_eq_self.mpr fun _ _ => rfl]
/-- the left one is new, the right one stands -/
theorem el_catNV {K : PySem.W.Frag} {σ : L2.St} {H : Hp} {ta tb : TE} {xs ys : List V} {b : Addr} (ha : EvL ta σ H xs) (hb : ∀ H1, Ex H H1 → Ev tb σ H1 (.ref b)) (h : H b = some (.lst ys)) (hz : xs.length + ys.length ≤ 100000) : EvL (tOp rCat ta tb) σ H (xs ++ ys) := el_catW ha hb h hz
theorem row_slice (w : List Bool) (lo hi : Option Int) : Txt.slice (rowS w) lo hi = rowS ((w.drop (HT.sIx w.length 0 lo)).take (HT.sIx w.length w.length hi - HT.sIx w.length 0 lo)) := by
  rw [← C8.cutS_slice]
  unfold cutS
  rw [rowS_len, rowS_cps, ← List.map_drop, ← List.map_take]
  rfl
theorem row_mid (w : List Bool) {i j : Nat} (h1 : i ≤ j) (h2 : j ≤ w.length) : Txt.slice (rowS w) (some (i : Int)) (some (j : Int)) = rowS ((w.drop i).take (j - i)) := by
  rw [row_slice, show HT.sIx w.length 0 (some (i : Int)) = min i w.length from HT.sIx_nat _ _ _, show HT.sIx w.length w.length (some (j : Int)) = min j w.length from HT.sIx_nat _ _ _, Nat.min_eq_left (show i ≤ w.length by omega), Nat.min_eq_left h2]
/-- an item of a tuple that is made on the way -/
theorem ev_pickU {K : PySem.W.Frag} {σ : L2.St} {H : Hp} {ta tb : TE} {xs : List V} {i : Int} {v : V} (ha : EvU ta σ H xs) (hb : Ev tb σ H (.int i)) (hv : atI xs i = some v) : Ev (tOp (rIxT K) ta tb) σ H v := fun H1 e Q q =>
  ha H1 e _ fun p H2 _ e2 hp => hb H2 (e.trans e2) _ fun H3 e3 => ⟨p, xs, i, v, rfl, rfl, st_of (e3 p _ hp), hv, q H3 (e2.trans e3)⟩
theorem ev_neStrsL {K : PySem.W.Frag} {σ : L2.St} {H : Hp} {ta tb : TE} {a : Addr} {zs : List Str} (h1 : EvL ta σ H (zs.map V.str)) (h2 : ∀ H1, Ex H H1 → Ev tb σ H1 (.ref a)) (hs : SqL K H a (zs.map V.str)) (hx : ∀ x ∈ zs, x.cps.all (· < 0x110000) = true) : Ev (tOp (rNeD K) ta tb) σ H (.bl false) :=
  ev_is (ev_opL1 h1 h2 fun p H1 hp e => rv_neD (d := .list (zs.map .str)) (e := .list (zs.map .str)) (fun H2 e2 => .lst (sq_of (e2 p _ hp)) (dp_strs H2 zs)) (fun H2 e2 => .lst (ex_l (e.trans e2) hs) (dp_strs H2 zs)) (shaped_strs hx) (shaped_strs hx)) (by rw [eqv_self (shaped_strs hx)]; rfl)
theorem shaped_strsT {xs : List Str} (h : ∀ x ∈ xs, x.cps.all (· < 0x110000) = true) : SeqAt.shaped (.tuple (xs.map PyData.str)) = true := by
  have h1 := depth_strs xs
  have h2 : PyData.depth (.tuple (xs.map PyData.str)) ≤ 64 := by simp only [PyData.depth]; omega
  show (PyData.canLay0 _ && decide (PyData.depth _ ≤ 64)) = true
  rw [Bool.and_eq_true]
  exact ⟨by simp only [PyData.canLay0]; exact canLay_strs h, decide_eq_true h2⟩
theorem ev_neStrsUU {K : PySem.W.Frag} {σ : L2.St} {H : Hp} {ta tb : TE} {zs : List Str} (h1 : EvU ta σ H (zs.map V.str)) (h2 : EvU tb σ H (zs.map V.str)) (hx : ∀ x ∈ zs, x.cps.all (· < 0x110000) = true) : Ev (tOp (rNeD K) ta tb) σ H (.bl false) :=
  ev_is (ev_opUU h1 h2 fun p q H1 hp hq e => rv_neD (d := .tuple (zs.map .str)) (e := .tuple (zs.map .str)) (fun H2 e2 => .tup (st_of (e2 p _ hp)) (dp_strs H2 zs)) (fun H2 e2 => .tup (st_of (e2 q _ hq)) (dp_strs H2 zs)) (shaped_strsT hx) (shaped_strsT hx)) (by rw [eqv_self (shaped_strsT hx)]; rfl)
section
variable {K : PySem.W.Frag} {σ : L2.St} {H : Hp} {tl : TE} {xs : List V}
theorem ei_tupN (h : EvU tl σ H xs) : EvI (iTup K tl) σ H (WalkX xs.length (YAt xs)) := fun H1 e R r =>
  h H1 e _ fun p H2 _ e2 h2 => ⟨p, rfl, ⟨xs, st_of h2⟩, r _ H2 e2 ⟨_, walk_tup, st_of h2, fun _ _ q k => ex_t k q⟩⟩
end
end Hl
/-! ### reversed(a text): walked from its end -/
namespace Hl
open PySem PySem.Spec PyProof.Rows L2
theorem norev_str : typeLookup (.type "str") "__reversed__" = pure none := by rw [typeLookup_type, builtinLookup_eq_fast]; kernel_rfl
theorem item_str : typeLookup (.type "str") "__getitem__" = pure (some (.builtin "str.__getitem__")) := by rw [typeLookup_type, builtinLookup_eq_fast]; kernel_rfl
def rsObj (x : Str) (t : Tok) (i : Int) : Obj := { cls := .type "reversed", data := .fields #[.str x t, rawInt i] }
def IsRs (h : Heap) (a : Addr) (x : Str) (i : Int) : Prop := ∃ (o : Obj) (t : Tok), h.get? a = some o ∧ o.cls = .type "reversed" ∧ o.data = .fields #[.str x t, rawInt i]
theorem IsRs.at {h h' : Heap} {a : Addr} {x : Str} {i : Int} (y : IsRs h a x i) (e : ∀ o, h.get? a = some o → h'.get? a = some o) : IsRs h' a x i := let ⟨o, t, ho, r⟩ := y; ⟨o, t, e _ ho, r⟩
section
variable {prog : Program} {w : World} {A : Around} {E : Value → Shared → Prop} {s : Shared} {x : Str} {t : Tok}
theorem IsRs.typeIs {a : Addr} {i : Int} (y : IsRs s.heap a x i) : s.TypeIs (.ref a) "reversed" := let ⟨o, _, ho, hc, _⟩ := y; ⟨o, ho, hc⟩
theorem rs_code {Q₁ : Value → Shared → Prop} (hx : x.length ≤ 100000)
    (h : Q₁ (.ref s.heap.objs.size) { s with heap := s.heap.push (rsObj x t ((x.length : Int) - 1)), toks := s.toks + 1 + 1 }) :
    codeAny (model prog w) A (.call (.builtin "reversed.__new__") ⟨[.type "reversed", .str x t], []⟩) (wants Q₁ E) s := by
  have hT : s.TypeIs (.str x t) "str" := typeIs_str s x t
  refine codeAny_of_tree ?_
  show wpAny _ A.in1 (do checkBuiltinCall "reversed.__new__" ⟨[.type "reversed", .str x t], []⟩; again (.builtin "reversed.__new__" ⟨[.type "reversed", .str x t], []⟩)) _ _ s
  refine wpAny_bind (wpAny_of_eq (F.newCall_reversed_1 _) (wpAny_pure ⟨plainId_quiet F.plain_reversed_new _, codeAny_builtin F.entry_reversed_new ?_⟩))
  rw [Around.under_plainId F.plain_reversed_new _]
  unfold Builtin.«reversed.__new__»
  refine wpAny_bind (wpAny_of_eq (newClass_reversed _) ?_)
  try dsimp only
  refine wpAny_bind (wpAny_of_eq (a := ()) (by first | rfl | kernel_rfl) ?_)
  try dsimp only
  refine wpAny_bind (wpAny_of_eq (a := ()) (by first | rfl | kernel_rfl) ?_)
  try dsimp only
  refine wpAny_bind (wpAny_specialOf hT norev_str ?_)
  try dsimp only
  refine wpAny_bind ?_
  wp_delta
  refine wpAny_bind (wpAny_isInstance (T := "str") (U := "dict") (b := false) hT PySem.F.sub_str_dict ?_)
  try dsimp only
  try rw [if_neg Bool.false_ne_true]
  try dsimp only
  refine wpAny_bind (wpAny_specialOf hT item_str ?_)
  try dsimp only
  try rw [if_pos (by decide +kernel)]
  refine wpAny_pure ?_
  try dsimp only
  try rw [if_neg (by decide)]
  try dsimp only
  refine wpAny_bind (P.len_str (by omega) ?_)
  refine wpAny_bind (wpAny_of_eq (a := some ((x.length : Nat) : Int)) rfl ?_)
  try dsimp only
  refine wpAny_bind ?_
  show wpAny _ _ (newObj (.type "reversed") (.fields #[.str x t, rawInt ((x.length : Int) - 1)])) _ _ _
  refine wpAny_newObj_type ?_
  exact wpAny_pure h
theorem rs_call {Q : Value → Shared → Prop} (hx : x.length ≤ 100000)
    (h : Q (.ref s.heap.objs.size) { s with heap := s.heap.push (rsObj x t ((x.length : Int) - 1)), toks := s.toks + 1 + 1 }) : wpAny (model prog w) A (call (.type "reversed") [.str x t]) Q E s := by
  refine callType_codes (Q₁ := fun obj s₁ => s₁.TypeIs obj "reversed" ∧ Q obj s₁) RT.called_rt (F.typeCall_reversed_1 _) F.entry_object_init
    (rs_code (A := A.in1) hx ⟨⟨_, Heap.get?_push_size _ rfl, rfl⟩, h⟩) fun obj s₁ h₁ => ?_
  exact ⟨h₁.1, F.args_object_init_2 obj _, object_init_meets RT.called_rt.init.lookup RT.called_rt.made (by decide) prog w A.in1 _ s₁ ⟨h₁.1, rfl, h₁.2⟩⟩
theorem rs_item {it : Addr} {i : Nat} {c : Nat} {Q : Option Value → Shared → Prop} (hit : IsRs s.heap it x (i : Int)) (hc : x.cps[i]? = some c) (hsz : x.length ≤ 100000)
    (hQ : ∀ h' k k', IsRs h' it x ((i : Int) - 1) → Heap.SameBut it s.heap h' → Q (some (.str ⟨#[c]⟩ k)) { s with heap := h', toks := k' }) : wpAny (model prog w) A (pyNext (.ref it)) Q E s := by
  obtain ⟨o, t, ho, hcl, hd⟩ := id hit
  have hi : i < x.length := (Array.getElem?_eq_some_iff.mp hc).1
  have hT : s.TypeIs (.str x t) "str" := typeIs_str s x t
  unfold pyNext
  refine wpAny_bind (wpAny_attempt (wpAny_callSpecial?_slot (name := Str.ofString "__next__") hit.typeIs RT.slot_rt_next
    (wpAny_call_entry RT.slot_rt_next hit.typeIs RT.entry_rt_next ?_ (RT.args_rt_next _))))
  unfold Builtin.«reversed.__next__»
  refine wpAny_bind (wpAny_of_eq (a := (Value.ref it, [])) rfl ?_)
  try dsimp only
  refine wpAny_bind (wpAny_field ho hd (x := .str x t) rfl ?_)
  try dsimp only
  refine wpAny_bind (wpAny_field ho hd (x := rawInt (i : Int)) rfl ?_)
  show wpAny _ _ (if (i : Int) < 0 then _ else _) _ _ s
  rw [if_neg (by omega)]
  try dsimp only
  refine wpAny_bind (wpAny_specialOf hT item_str ?_)
  try dsimp only
  try rw [if_neg (by decide)]
  try dsimp only
  refine wpAny_bind (wpAny_mkInt ?_)
  refine wpAny_bind (wpAny_attempt ?_)
  have fin : seqIndex? (i : Int) x.length = some i := seqIndex_of (by omega) (by omega)
  refine P.getItem_str (s := { s with toks := s.toks + 1 }) (c := c) (by rw [decide_eq_false (by omega), decide_eq_false (by omega)]; rfl) (by rw [fin]; exact hc) ?_
  try dsimp only
  refine wpAny_bind (wpAny_field (s := { s with toks := s.toks + 1 + 1 }) ho hd (x := rawInt (i : Int)) rfl ?_)
  try dsimp only
  refine wpAny_bind (wpAny_setField (s := { s with toks := s.toks + 1 + 1 }) ho hd (by simp) ?_)
  have st : IsRs (s.heap.update it (Obj.mapFields (·.setIfInBounds 1 (rawInt ((i : Int) - 1))))) it x ((i : Int) - 1) := ⟨_, t, Heap.get?_update_self _ ho (Obj.isFreed_of_fields (Obj.data_mapFields hd _)), (Obj.cls_mapFields ..).trans hcl, by
    rw [Obj.data_mapFields hd]; simp⟩
  first
  | exact wpAny_pure ⟨_, rfl, wpAny_pure (hQ _ _ _ st (Heap.SameBut.update ..))⟩
  | exact wpAny_bind (wpAny_pure (wpAny_pure ⟨_, rfl, wpAny_pure (hQ _ _ _ st (Heap.SameBut.update ..))⟩))
theorem rs_end {it : Addr} {Q : Option Value → Shared → Prop} (hh : A.handled = none) (hit : IsRs s.heap it x (-1))
    (hQ : ∀ h', Heap.ExtBut it s.heap h' → Q none { s with heap := h' }) : wpAny (model prog w) A (pyNext (.ref it)) Q E s := by
  obtain ⟨o, t, ho, hc, hd⟩ := id hit
  unfold pyNext
  refine wpAny_bind (wpAny_attempt (wpAny_callSpecial?_slot (name := Str.ofString "__next__") hit.typeIs RT.slot_rt_next
    (wpAny_call_entry RT.slot_rt_next hit.typeIs RT.entry_rt_next ?_ (RT.args_rt_next _))))
  unfold Builtin.«reversed.__next__»
  refine wpAny_bind (wpAny_of_eq (a := (Value.ref it, [])) rfl ?_)
  try dsimp only
  refine wpAny_bind (wpAny_field ho hd (x := .str x t) rfl ?_)
  try dsimp only
  refine wpAny_bind (wpAny_field ho hd (x := rawInt (-1)) rfl ?_)
  show wpAny _ _ (if (-1 : Int) < 0 then _ else _) _ _ s
  rw [if_pos (by decide)]
  try dsimp only
  refine wpAny_bind (wpAny_rule ?_)
  refine wpAny_bind ?_
  wp_delta
  refine wpAny_bind (wpAny_setField ho hd (by simp) ?_)
  have ho2 := Heap.get?_update_self (Obj.mapFields (·.setIfInBounds 1 (rawInt (-1)))) ho (Obj.isFreed_of_fields (Obj.data_mapFields hd _))
  refine wpAny_setField (s := { s with heap := s.heap.update it (Obj.mapFields (·.setIfInBounds 1 (rawInt (-1)))) }) ho2 (Obj.data_mapFields hd _) (by simp) ?_
  try dsimp only
  first
  | show wpAny _ _ (newExc (.type "StopIteration") [] >>= _) _ _ _
  | (refine wpAny_bind ?_; show wpAny _ _ (newExc (.type "StopIteration") [] >>= _) _ _ _)
  | (refine wpAny_bind ?_; wp_delta; show wpAny _ _ (newExc (.type "StopIteration") [] >>= _) _ _ _)
  refine wpAny_bind ?_
  simp only [newExc, newTuple]
  refine wpAny_bind (wpAny_newObj_type ?_ (by size_fits))
  refine wpAny_bind (m := firstArgMember _ _) (wpAny_of_eq (a := Value.none) (by first | rfl | (simp only [firstArgMember]; rfl)) ?_)
  refine wpAny_newObj_type ?_ (by size_fits)
  simp only [raiseNew]
  refine wpAny_bind (wpAny_handled ?_)
  first | rw [show A.in1.handled = none from hh] | rw [hh]
  refine wpAny_bind (wpAny_pure (wpAny_throw ?_))
  refine wpAny_bind (wpAny_isInstance (T := "StopIteration") (b := true) ⟨_, Heap.get?_push_size _ rfl, rfl⟩ isSubtype_stop ?_)
  refine wpAny_pure (hQ _ ?_)
  refine ((?_ : Heap.ExtBut it s.heap _).push _).push _
  exact fun b ob hb e => (Heap.get?_update_other _ _ (Ne.symm hb)).trans ((Heap.get?_update_other _ _ (Ne.symm hb)).trans e)
theorem rs_iter {it : Addr} {i : Int} {Q : Value → Shared → Prop} (hit : IsRs s.heap it x i) (h : Q (.ref it) s) : wpAny (model prog w) A (pyIter (.ref it)) Q E s := by
  refine wpAny_pyIter_slot hit.typeIs RT.slot_rt_iter (wpAny_call_entry RT.slot_rt_iter hit.typeIs RT.entry_rt_iter ?_ (RT.args_rt_iter _))
  show wpAny _ _ (ret (.ref it)) _ _ s
  exact wpAny_pure ⟨_, rfl, "reversed", _, hit.typeIs, RT.slot_rt_next.lookup, h⟩
end
/-- the walk: nothing is read of the heap -/
def Itrs (z : Str) : It := ⟨fun i _ => i < z.cps.size, fun i H x H' => H' = H ∧ ∃ c, z.cps[z.cps.size - 1 - i]? = some c ∧ x = .str ⟨#[c]⟩, fun i _ => z.cps.size ≤ i⟩
theorem turn_rs {P : Program} {w : World} {K : PySem.W.Frag} {tg : Expr} (z : Str) (hz : z.length ≤ 100000) (it : Addr) : Turn P w K tg (Itrs z) [it] it (fun i h => i ≤ z.cps.size ∧ IsRs h it z ((z.cps.size : Int) - 1 - (i : Nat))) where
  mem := by simp
  obj := fun i h st b hb => by
    have e : b = it := by simpa using hb
    subst e
    obtain ⟨_, o, t, e, c, d⟩ := st
    exact ⟨o, e, fun v z => by rw [d] at z; cases z⟩
  keep := fun i h h' st k => ⟨st.1, st.2.at fun o e => k it (by simp) o e⟩
  item := by
    intro X hP hw hK hc i pins s σ H E I hf st hg
    subst hP hw hK
    have hin : i < z.cps.size := hg
    have hj : z.cps.size - 1 - i < z.cps.size := by omega
    have hx : z.cps[z.cps.size - 1 - i]? = some z.cps[z.cps.size - 1 - i] := Array.getElem?_eq_getElem hj
    generalize z.cps[z.cps.size - 1 - i] = c at hx
    obtain ⟨f0, f1, f2, f3, f4, f5⟩ := hf it (by simp)
    obtain ⟨_, hit⟩ := st
    have e1 : (z.cps.size : Int) - 1 - ((i : Nat) : Int) = ((z.cps.size - 1 - i : Nat) : Int) := by omega
    rw [e1] at hit
    refine rs_item hit hx hz fun h' k k' st' sb => ?_
    have e2 : ((z.cps.size - 1 - i : Nat) : Int) - 1 = (z.cps.size : Int) - 1 - ((i + 1 : Nat) : Int) := by omega
    rw [e2] at st'
    have I1 : Inv X pins σ H { s with heap := h', toks := k' } := I.turned (t' := k') (fun b o hb e => (sb.2 b hb).trans e) f0 f1 f3 f4 f5
    obtain ⟨o, t, e, cc, d⟩ := id st'
    exact ⟨_, rfl, go_of (s := { s with heap := h', toks := k' }) e cc d (by decide) ⟨.str ⟨#[c]⟩, H, I1, ⟨_, rfl⟩, ⟨rfl, c, hx, rfl⟩, ⟨hin, st'⟩, fun b hb => (hf b hb).1⟩⟩
  done := by
    intro X hP hw hK hc i pins s σ H E I hf st hg
    subst hP hw hK
    obtain ⟨f0, f1, f2, f3, f4, f5⟩ := hf it (by simp)
    obtain ⟨hin, hit⟩ := st
    have hge : z.cps.size ≤ i := hg
    have e1 : (z.cps.size : Int) - 1 - ((i : Nat) : Int) = -1 := by omega
    rw [e1] at hit
    exact rs_end (I.ok.hd hc) hit fun h' eb => ⟨rfl, I.turned (t' := s.toks) (fun b o hb e => eb b o hb e) f0 f1 f3 f4 f5⟩
  self := fun A i s Q E st h => rs_iter st.2 h
def iRevS (te : TE) : TI := fun σ H R => te σ H fun v H1 => ∃ z, v = .str z ∧ z.length ≤ 100000 ∧ R (Itrs z) H1
theorem pi_revS {X : Cx} {tg e : Expr} {te : TE} {p pos : Pos} (hg : Gl X "reversed") (hm : X.mg "reversed" = none) (he : PE X e te) (hs : starEach [e] X.env = (false, eval e X.env) :: starEach [] X.env := by rfl) : PI X tg (.Call (.Name "reversed" p) [e] [] pos) (iRevS te) := by
  refine ⟨fun pins s σ H R I h => ?_⟩
  refine Call_ (ld_blt I hg hm PyProof.Rows.boot_reversed (PyProof.Rows.callWith_type1 (args_cons (thn (he.run pins s σ H _ I h) fun u s1 ⟨v, H1, I1, r1, q1⟩ => args_nil ?_) hs) hs rfl))
  obtain ⟨z, ev, hz, q⟩ := q1
  subst ev
  obtain ⟨t, rfl⟩ := r1
  have e1 : (z.length : Int) - 1 = (z.cps.size : Int) - 1 - ((0 : Nat) : Int) := by
    show (z.cps.size : Int) - 1 = _
    omega
  refine rs_call hz (rs_iter (x := z) (i := (z.length : Int) - 1) ⟨_, t, Heap.get?_push_size _ rfl, rfl, rfl⟩ ?_)
  refine pi_one (tk := s1.toks + 1 + 1) I1 _ (turn_rs z hz _) ⟨Nat.zero_le _, ?_⟩ q
  rw [← e1]
  exact ⟨_, t, Heap.get?_push_size _ rfl, rfl, rfl⟩
open Evl
theorem walk_rs {z : Str} : Walk (Itrs z) z.cps.size (fun _ => True) (fun i H x H' => H' = H ∧ ∃ c, z.cps[z.cps.size - 1 - i]? = some c ∧ x = .str ⟨#[c]⟩) :=
  ⟨fun i _ hi _ => hi, fun _ _ => Nat.le_refl _, fun i H v H' _ _ y => y⟩
theorem ei_revS {σ : L2.St} {H : Hp} {tl : TE} {z : Str} (h : Ev tl σ H (.str z)) (hz : z.length ≤ 100000) : EvI (iRevS tl) σ H (WalkX z.cps.size (fun i H x H' => H' = H ∧ ∃ c, z.cps[z.cps.size - 1 - i]? = some c ∧ x = .str ⟨#[c]⟩)) := fun H1 e R r =>
  h H1 e _ fun H2 e2 => ⟨z, rfl, hz, r _ H2 e2 ⟨_, walk_rs, trivial, fun _ _ _ _ => trivial⟩⟩
end Hl
/-! ### len(set(tuples)); defs without arguments -/
namespace Hl
open PySem PySem.Spec PyProof.Rows L2 Evl
def rLenT (P : Program) (w : World) : List V → Hp → VK → Prop := fun xs H Q => ∃ (a : Addr) (L : List (Addr × List Int)), xs = [.ref a] ∧ H a = some (SetTO P w a L) ∧ ((L.map (·.2)).Nodup → Q (.int (L.length : Nat)) H)
theorem call_lenT {X : Cx} : CallR X (.builtin "len") (rLenT X.prog X.w) := by
  intro pins s σ H xs us Q I r h
  obtain ⟨a, L, rfl, ha, q⟩ := h
  rw [Vals.ref1 r]
  obtain ⟨R, _, _⟩ := I.hok a _ ha
  obtain ⟨es, ep, t, ⟨o, ho, hex, hd⟩, hrows, htab, hnd, hplain, hled, hroom, hfew⟩ := SetT0.ex R
  have hsz : es.size = L.length := by
    have := congrArg List.length hrows
    rw [Array.length_toList] at this
    unfold rowsOf at this
    rw [List.length_map] at this
    exact this
  have hf : t.fits es.size = true := by
    have h1 := htab.sz
    rw [List.length_map] at h1
    unfold SetTable.fits SetTable.fill
    rw [htab.dm, Bool.and_eq_true, beq_iff_eq, decide_eq_true_eq]
    show t.place.size = es.size ∧ t.place.size + 0 ≤ t.mask
    omega
  exact call_len_set ho hex hd hf (by omega) ⟨.int (L.length : Nat), H, I.tok _, ⟨_, by rw [hsz]⟩, q hnd⟩
/-- the members of a set of different tuples are as many as these -/
theorem set_size {ks L : List (Addr × List Int)} (hn : (ks.map (·.2)).Nodup) (hL : (L.map (·.2)).Nodup) (h1 : ∀ p ∈ L, p ∈ ks) (h2 : ∀ p ∈ ks, p.2 ∈ L.map (·.2)) : L.length = ks.length := by
  have p : (L.map (·.2)).Perm (ks.map (·.2)) := (List.perm_ext_iff_of_nodup hL hn).mpr fun x => ⟨fun hx => by
    obtain ⟨q, hq, rfl⟩ := List.mem_map.mp hx
    exact List.mem_map.mpr ⟨q, h1 q hq, rfl⟩, fun hx => by
    obtain ⟨q, hq, rfl⟩ := List.mem_map.mp hx
    exact h2 q hq⟩
  have := p.length_eq
  rw [List.length_map, List.length_map] at this
  exact this
section
variable {X : Cx} {k j : Nat} {x : Str} {sp : Sp} {dvs : List V} {E : XK} {p pos : Pos}
theorem pe_calN (c : Cal X.prog X.w X.K X.mg X.base k x sp dvs) (hr : Room j X.A) (hk : k ≤ j) (hg : Gl X x) (hx : Passes (L2.CX X.prog X.w) X E) (hdb : (x == ("__debug__" : Str)) = false := by decide) : PE X (.Call (.Name x p) [] [] pos) (tCall sp dvs E tNil) := by
  obtain ⟨f, fd, ps, ds, F, hm, kp, b, d⟩ := c.ex
  exact pe_call0 F (hr.mono hk) hg hm kp b d hx hdb
end
end Hl
/-! text[::-1]; new lists turned. -/
namespace Hl
open PySem PySem.Spec PyProof.Rows L2 Evl
def revStr (z : Str) : Str := SX.S z.cps.toList.reverse
def tRevS (te : TE) : TE := fun σ H Q => te σ H fun x H1 => ∃ z, x = .str z ∧ z.length ≤ 100000 ∧ Q (.str (revStr z)) H1
theorem rev_pick (z : Str) : (⟨((Builtin.Str.strSliceIndices none none (-1) z.length).filterMap (z.cps[·]?)).toArray⟩ : Str) = revStr z := by
  have e1 : Builtin.Str.strSliceIndices none none (-1) z.length = sliceRange ((z.cps.size : Int) - 1) (-1) (-1) := rfl
  rw [e1, PySem.W.krv_sliceRange, PySem.W.krv_range, List.filterMap_reverse, PySem.W.krv_all]
  rfl
theorem pe_revS {X : Cx} {e : Expr} {te : TE} {k : Nat} {p1 p2 p3 pos : Pos} (he : PE X e te) : PE X (.Subscript e (.Slice none none (some (.UnaryOp .USub (.Constant (.int 1) k p1) p2)) p3) pos) (tRevS te) := by
  constructor
  intro pins s σ H Q I h
  refine Subscript_ (thn (he.run pins s σ H _ I h) fun vv sa hv => ?_)
  obtain ⟨x0, Ha, Ia, ra, z, rfl, hz, q⟩ := hv
  obtain ⟨tz, rfl⟩ := ra
  have hstep : PO X (some (.UnaryOp .USub (.Constant (.int 1) k p1) p2)) (tPart (tUn (rU fun i => .int (-i)) (tC (.int 1)))) := po_some (pe_un un_neg pe_int)
  refine wpAny_Slice (thn (po_none.run pins sa σ Ha (fun o Hb => o = none ∧ Hb = Ha) Ia ⟨rfl, rfl⟩) fun vl sb hl => ?_)
  obtain ⟨lo, Hb, Ib, pl, rfl, rfl⟩ := hl
  refine thn (po_none.run pins sb σ Hb (fun o Hc => o = none ∧ Hc = Hb) Ib ⟨rfl, rfl⟩) fun vu sc hu => ?_
  obtain ⟨up, Hc, Ic, pu, rfl, rfl⟩ := hu
  refine thn (hstep.run pins sc σ Hc (fun o Hd => o = some (-1) ∧ Hd = Hc) Ic ⟨1, rfl, -1, rfl, rfl, rfl⟩) fun vk sd hk => ?_
  obtain ⟨st, Hd, Id, pk, rfl, rfl⟩ := hk
  have If : Inv X pins σ Hd { sd with heap := sd.heap.push { cls := .type "slice", data := .fields #[vl, vu, vk] } } := Id.kept (t' := sd.toks) fun b ob q => Heap.get?_push_of_some _ q
  obtain ⟨l, rfl, hl0⟩ := IsPart.raw pl
  obtain ⟨u, rfl, hu0⟩ := IsPart.raw pu
  obtain ⟨m, rfl, hm0⟩ := IsPart.raw pk
  show wpAny (model X.prog X.w) X.A (subscriptTail e (.Slice none none (some (.UnaryOp .USub (.Constant (.int 1) k p1) p2)) p3) (.str z tz) (.ref sd.heap.objs.size)) (EP X pins σ Q) X.xe { sd with heap := sd.heap.push { cls := .type "slice", data := .fields #[partValue l, partValue u, partValue m] } }
  refine tail_any (ops := [.ref sd.heap.objs.size]) (typeIs_str _ _ _) F.slot_str_getitem.lookup ?_ (by with_unfolding_all rfl)
  refine wpAny_getItem_str_slice (l := l) (u := u) (st := m) ⟨_, Heap.get?_push_size _ rfl, rfl, rfl⟩ (by rw [hm0]; rfl) ?_
  have hmade : sliceMade z tz l u m = Made.str (revStr z) := by
    unfold sliceMade slicePicked
    rw [hl0, hu0, hm0]
    show (if ((-1 : Int) == 1 && _) = true then _ else Made.str _) = _
    rw [if_neg (by rw [show ((-1 : Int) == 1) = false from rfl, Bool.false_and]; exact Bool.false_ne_true)]
    exact congrArg Made.str (rev_pick z)
  rw [hmade]
  exact ⟨by
    show (revStr z).length ≤ sizeLine
    unfold revStr
    rw [SX.S_len, List.length_reverse, Array.length_toList]
    exact sz_of hz, .str (revStr z), Hd, If.tok _, ⟨_, rfl⟩, q⟩
theorem rev_row (w : List Bool) : revStr (rowS w) = rowS w.reverse := by
  unfold revStr
  rw [rowS_cps]
  unfold rowS
  rw [List.map_reverse]
section
variable {K : PySem.W.Frag} {σ : L2.St} {H : Hp} {te : TE} {xs : List V}
theorem ev_revRow {w : List Bool} (hl : w.length ≤ 90000) (h : Ev te σ H (.str (rowS w))) : Ev (tRevS te) σ H (.str (rowS w.reverse)) := fun H1 e Q q =>
  h H1 e _ fun H2 e2 => ⟨_, rfl, by rw [rowS_len]; omega, by rw [rev_row]; exact q H2 e2⟩
theorem el_revN (h : EvL te σ H xs) : EvL (tRevL K te) σ H xs.reverse := fun H1 e Q q =>
  h H1 e _ fun p H2 _ e2 hp => ⟨p, xs, rfl, sq_of hp, fun r nr => q r _ (fresh_back e2 nr) (e2.trans (Ex.new nr)) upd_same⟩
end
end Hl
/-! ### a list comprehension whose element may be refused: the refusal goes on from the def's frame (k07) -/
namespace Hl
open PySem PySem.Spec PyProof.Rows L2 Evl
/-- how a block ends: the list is there, or a refusal is passed on by the block's own environment -/
def BlkEnd (M : Model) (A : Around) (Ex : Value → Shared → Prop) (Q : Value → Shared → Prop) (lst : Value) (be : Env) : Result → Shared → Prop
  | .ok _, st => ∃ mp, st.heap.Ns be.locals mp ∧ ∀ hp, Heap.SameBut be.locals st.heap hp → Q lst { st with heap := hp }
  | .error v, st => ∃ mp, st.heap.Ns be.locals mp ∧ ∀ hp, Heap.SameBut be.locals st.heap hp → wpAny M A (passOn "comprehension.variables-let-go" v be : Sem Value) (fun _ _ => False) Ex { st with heap := hp }
section
variable {M : Model} {A : Around} {Ex : Value → Shared → Prop} {st : Shared} {env : Env}
theorem comp_passes {e : Expr} {scope : Scope} {pos : Pos} {mk fst : Sem Value} {c : Comprehension} {cs : List Comprehension} {caught : List (Str × Addr)} {Q : Value → Shared → Prop}
    (hcs : clausesOf e = c :: cs) (hfold : ∀ x, foldedSetIterable c.iter env x = pure x) (hcl : closureFor scope env = pure caught) (hk : scope.kind = .function) (hloc : ∀ y ∈ scope.names, y.2 = .local → scope.names.lookup y.1 = some .local)
    (h : wpAny M A fst (fun x t1 => wpAny M A (pyIter x) (fun it t2 => wpAny M A mk (fun lst t3 => wpAny M A (newFunctionEnv scope env.globals caught [] env.qual none .none (some env)) (fun be t4 =>
      codeAny M A (.compStart e 0 it lst { be with scope := relabel scope env }) (BlkEnd M A Ex Q lst { be with scope := relabel scope env }) t4) Ex t3) Ex t2) Ex t1) Ex st) :
    wpAny M A (comprehension e scope env pos mk false fst none) Q Ex st := by
  have keepE : ∀ (v : Value) (s' : Shared), Ex v s' → Ex v s' := fun _ _ z => z
  unfold comprehension
  rw [hcl, hcs]
  refine wpAny_bind (wpAny_mono h (fun x t1 h1 => ?_) keepE)
  refine wpAny_bind (wpAny_standAt (wpAny_bind (wpAny_of_eq (hfold x) ?_)))
  refine wpAny_bind (wpAny_holding (wpAny_mono h1 (fun it t2 h2 => ?_) keepE))
  refine wpAny_standIf (wpAny_bind (wpAny_mono h2 (fun lst t3 h3 => ?_) keepE))
  refine wpAny_bind (wpAny_pure (wpAny_bind (wpAny_mono h3 (fun be t4 h4 => ?_) keepE)))
  dsimp only
  have isLoc : ∀ y ∈ (scope.names.filter fun y => (y.2 == .local || y.2 == .cell) && y.1 != (".0" : Str)).reverse, y.2 = .local → Env.kindOf { be with scope := relabel scope env } y.1 = some .local := fun y hy hl =>
    lookup_relabel_local (hloc y (List.mem_filter.mp (List.mem_reverse.mp hy)).1 hl)
  refine wpAny_holding (wpAny_bind (wpAny_attempt (wpAny_holding (wpAny_run (codeAny_mono h4 fun res s' hres => ?_)))))
  cases res with
  | ok fl =>
    obtain ⟨mp, hn, hq⟩ := hres
    refine wpAny_bind (wpAny_holding (wpAny_comp_letGo (cenv := { be with scope := relabel scope env }) hk _ s' mp isLoc hn ?_))
    exact fun hp _ _ same => wpAny_pure (hq hp same)
  | error v =>
    obtain ⟨mp, hn, hq⟩ := hres
    refine wpAny_bind (wpAny_holding (wpAny_comp_letGo (cenv := { be with scope := relabel scope env }) hk _ s' mp isLoc hn ?_))
    exact fun hp _ _ same => wpAny_mono (hq hp same) (fun _ _ z => z.elim) fun _ _ z => z
end
/-- a frame notes by its own object alone -/
theorem note_frame {e : Value} {env env' : Env} (h : env.frame = env'.frame) : noteFrame e env = noteFrame e env' := by
  unfold noteFrame PySem.frameOf
  rw [h]
/-- the block's context, with what its elements may let out -/
def letsOut (X : Cx) (s : Shared) (H : Hp) (scope : Scope) (be : Env) (fp : List Addr) (E : XK) : Value → Shared → Prop := fun u s' =>
  ∃ (pins : List (Addr × Obj)) (σ : L2.St) (H1 : Hp) (s1 : Shared), Inv (X.blk s H scope be fp) pins σ H1 s1 ∧ L2.CX X.prog X.w X.stack H1 s1 E u s'
abbrev blkX (X : Cx) (s : Shared) (H : Hp) (scope : Scope) (be : Env) (fp : List Addr) (E : XK) : Cx := { X.blk s H scope be fp with xe := letsOut X s H scope be fp E }
section
variable {X : Cx} {s : Shared} {H : Hp} {scope : Scope} {be : Env} {fp : List Addr} {E : XK} {pins : List (Addr × Obj)} {σ : L2.St} {H1 : Hp} {s1 : Shared}
theorem inv_blkX (I : Inv (X.blk s H scope be fp) pins σ H1 s1) : Inv (blkX X s H scope be fp E) pins σ H1 s1 :=
  ⟨⟨I.ok.mod, I.ok.kind, I.ok.glob, I.ok.blt, I.ok.above, I.ok.inj, I.ok.has, I.ok.cab, I.ok.hd, I.ok.frames, I.ok.stk, I.ok.exf, I.ok.bs, I.ok.bsz, I.ok.noex, I.ok.exfs, I.ok.funs, I.ok.frf⟩, I.os, I.bare, I.base, I.loc, I.cell, I.free, I.freeC, I.pin, I.hok, I.len⟩
theorem inv_blk0 (I : Inv (blkX X s H scope be fp E) pins σ H1 s1) : Inv (X.blk s H scope be fp) pins σ H1 s1 :=
  ⟨⟨I.ok.mod, I.ok.kind, I.ok.glob, I.ok.blt, I.ok.above, I.ok.inj, I.ok.has, I.ok.cab, I.ok.hd, I.ok.frames, I.ok.stk, I.ok.exf, I.ok.bs, I.ok.bsz, I.ok.noex, I.ok.exfs, I.ok.funs, I.ok.frf⟩, I.os, I.bare, I.base, I.loc, I.cell, I.free, I.freeC, I.pin, I.hok, I.len⟩
/-- what a call in an element may let out -/
theorem passLX : Passes (L2.CX (blkX X s H scope be fp E).prog (blkX X s H scope be fp E).w) (blkX X s H scope be fp E) E := fun pn σ' H' s' e s2 I c => ⟨pn, σ', H', s', inv_blk0 I, c⟩
end
/-- the record of a heap, one object hidden -/
theorem held_hide {B h1 h2 : Heap} {l : List Env} {a C L : Addr} {Z : Obj → Prop} (x : HandSPX.HeldZ B l a Z L h1) (oC : Obj) (hC : h1.get? C = some oC) (nf : ∀ vs, oC.data ≠ .fields vs) (hl : C ∉ frs l) (same : Heap.SameBut C h1 h2) {B' : Heap} (hB : ∀ b, b ≠ C → B'.get? b = B.get? b) (hBC : B'.get? C = none) :
    HandSPX.HeldZ B' l a Z L h2 := by
  obtain ⟨x1, x2, x3, oe, vs, T, oT, ts, y1, y2, y3, y4, y5, y6, y7, y8, y9⟩ := x
  have ex : ∀ b o, b ≠ C → h1.get? b = some o → h2.get? b = some o := fun b o hb e => (same.2 b hb).trans e
  have aC : a ≠ C := fun z => by
    rw [z, hC] at y1
    exact nf vs (Option.some.inj y1 ▸ y3)
  have TC : T ≠ C := fun z => by
    rw [z, hC] at y7
    exact nf ts (Option.some.inj y7 ▸ y8)
  refine ⟨fun b o e => ?_, ?_, ?_, oe, vs, T, oT, ts, ex a _ aC y1, y2, y3, y4, ?_, y6, ex T _ TC y7, y8, y9⟩
  · by_cases hb : b = C
    · rw [hb, hBC] at e
      cases e
    · rw [hB b hb] at e
      exact ex b o hb (x1 b o e)
  · rw [hB a aC]
    exact x2
  · have key : ∀ l : List Env, h1.FunFrames B l → C ∉ frs l → h2.FunFrames B' l := fun l => by
      induction l with
      | nil => intro _ _; trivial
      | cons en r ih =>
        intro hf hm
        obtain ⟨k1, ⟨F, o, k2, k3, k4, k5⟩, k6⟩ := hf
        have hm2 : F ≠ C := fun z => hm (List.mem_filterMap.mpr ⟨en, List.mem_cons_self, by rw [k2, z]⟩)
        refine ⟨k1, ⟨F, o, k2, by rw [hB F hm2]; exact k3, ex F o hm2 k4, k5⟩, ih k6 fun z => hm ?_⟩
        obtain ⟨e', he', q⟩ := List.mem_filterMap.mp z
        exact List.mem_filterMap.mpr ⟨e', List.mem_cons_of_mem _ he', q⟩
    exact key l x3 hl
  · rw [hB T TC]
    exact y5
section
variable {X : Cx} {pins : List (Addr × Obj)} {σ : L2.St} {s3 : Shared} {H3 : Hp} {scope : Scope} {be : Env} {fp : List Addr} {E : XK}
/-- the refusal is noted by the def's frame, the block's variables go, it flies on -/
theorem block_out {Q : Value → Shared → Prop} {lst u : Value} {s' : Shared} (hs : X.stack = X.env :: X.outer) (hf : X.env.frame = some X.env.locals) (tk : Takes X (fun cls d _ H => E cls d H)) (I3 : Inv X pins σ H3 s3)
    (f3 : ∀ b ∈ fp, FpOk X pins H3 b ∧ b < s3.heap.objs.size) (hbe : be.frame = X.env.frame) (x : letsOut X s3 H3 scope be fp E u s') :
    notedBy (model X.prog X.w) X.A be (fun e st => BlkEnd (model X.prog X.w) X.A X.xe Q lst be (.error e) st) u s' := by
  obtain ⟨pn, σ1, H1, s1, I1, a, B, H2, cls, d, rfl, fl, hok, ub, na, os, ag, hE⟩ := x
  have hfr : X.A.frames = some (X.env :: X.outer) := by rw [I3.ok.frames, hs]
  have hbe2 : be.frame = some X.env.locals := hbe.trans hf
  have hnC : s3.heap.objs.size ≤ be.locals := I1.ok.above
  have hCf : be.locals ∉ frs X.stack := fun hm => by
    obtain ⟨_, o, e, _⟩ := I1.ok.funs.mem hm
    exact absurd (Heap.lt_size e) (Nat.not_lt.mpr hnC)
  have old : ∀ {b : Addr} {o : Obj}, s3.heap.get? b = some o → b ≠ be.locals := fun {b o} e z => by
    have := Heap.lt_size e
    rw [z] at this
    exact absurd this (Nat.not_lt.mpr hnC)
  obtain ⟨mp, ⟨oC, es, ep, hoC, hdC, hk1, hk2⟩, _⟩ := I1.loc
  have hBC : B.get? be.locals = some oC := ub.keep _ oC hoC I1.free hCf
  have hH2C : H2 be.locals = none := ub.free _ oC hoC I1.free
  have hsC : s'.heap.get? be.locals = some oC := fl.1 _ oC hBC
  have nf : ∀ vs, oC.data ≠ .fields vs := fun vs z => by
    rw [hdC] at z
    cases z
  have fl0 := fl
  rw [show X.stack = X.env :: X.outer from hs] at fl
  unfold notedBy
  rw [note_frame hbe]
  refine HandSPX.looks_onZ Zc.steady hfr hf fl fun h1 hh up => ?_
  obtain ⟨slC, hC1⟩ := up _ oC hsC nf
  refine ⟨mp, ⟨_, es, ep, hC1, hdC, hk1, hk2⟩, fun hp same => ?_⟩
  obtain ⟨B', hB1, hB2⟩ := restrict B fun b => decide (b ≠ be.locals)
  have hBne : ∀ b, b ≠ be.locals → B'.get? b = B.get? b := fun b hb => hB1 b (decide_eq_true hb)
  have hBC' : B'.get? be.locals = none := hB2 _ (by simp)
  have held := held_hide hh _ hC1 (fun vs z => nf vs z) (by rw [← hs]; exact hCf) same hBne hBC'
  have held0 := held
  obtain ⟨_, _, _, oe, vs, T, oT, ts, y1, y2, y3, y4, _⟩ := held0
  unfold PySem.passOn
  refine wpAny_bind (wpAny_field y1 y3 y4 ?_)
  rw [if_neg (show ¬ ((Value.ref T == Value.none) = true) from by simp), hbe2]
  refine wpAny_bind (HandSPX.setFlight_onZ held fun h2 held2 up2 => wpAny_throw ?_)
  -- the state without it
  obtain ⟨G, g1, g2⟩ := restrict s'.heap fun b => (B'.get? b).isSome || decide (b ∈ frs X.stack)
  have st : B.StaysIn s'.heap := fl0.1
  have stB' : ∀ b o, B'.get? b = some o → B.get? b = some o ∧ b ≠ be.locals := fun b o e => by
    have hb : b ≠ be.locals := fun z => by
      rw [z, hBC'] at e
      cases e
    exact ⟨(hBne b hb).symm.trans e, hb⟩
  have gB : ∀ b o, B'.get? b = some o → G.get? b = some o := fun b o e => by
    rw [g1 b (by simp [e])]
    exact st b o (stB' b o e).1
  have gF : ∀ b, b ∈ frs X.stack → G.get? b = s'.heap.get? b := fun b hb => g1 b (by simp [hb])
  have gO : ∀ b o, G.get? b = some o → s'.heap.get? b = some o ∧ ((B'.get? b).isSome = true ∨ b ∈ frs X.stack) := fun b o e => by
    cases q : ((B'.get? b).isSome || decide (b ∈ frs X.stack)) with
    | false =>
      rw [g2 b q] at e
      cases e
    | true =>
      rw [g1 b q] at e
      exact ⟨e, by simpa [Bool.or_eq_true] using q⟩
  have gC : ∀ b o, G.get? b = some o → b ≠ be.locals := fun b o e z => by
    rcases (gO b o e).2 with h | h
    · rw [z, hBC'] at h
      cases h
    · exact hCf (z ▸ h)
  have base : Un (frs X.stack) fp H3 H1 s3.heap s1.heap := I1.base
  have un : Un (frs X.stack) fp H3 H2 s3.heap G := {
    keep := fun b o e n hb hx => gB b o ((hBne b (old e)).trans (ub.keep b o (base.keep b o e n hb hx) (base.free b o e n hx) hb))
    slot := fun b o e n hb hx => by
      obtain ⟨sl, e1⟩ := base.slot b o e n hb hx
      obtain ⟨sl2, e2⟩ := ub.slot b _ e1 hb
      exact ⟨sl2, (gF b hb).trans e2⟩
    free := fun b o e n hx => by
      obtain ⟨o1, e1⟩ := base.there b o e hx
      exact ub.free b o1 e1 (base.free b o e n hx)
    there := fun b o e hx => by
      obtain ⟨o1, e1⟩ := base.there b o e hx
      by_cases hb : b ∈ frs X.stack
      · obtain ⟨sl2, e2⟩ := ub.slot b o1 e1 hb
        exact ⟨_, (gF b hb).trans e2⟩
      · obtain ⟨o2, e2⟩ := ub.there b o1 e1 hb
        exact ⟨o2, gB b o2 ((hBne b (old e)).trans e2)⟩
    tups := fun b xs e => ub.tups b xs (base.tups b xs e)
    frzs := fun b o v e => ub.frzs b o v (base.frzs b o v e)
    tbls := fun b ps e => by
      obtain ⟨m1, e1⟩ := base.tbls b ps e
      obtain ⟨m2, e2⟩ := ub.tbls b _ e1
      exact ⟨m1 ++ m2, by rw [e2, Array.append_assoc]⟩ }
  have hok' : HOk X.prog X.w H2 B' := fun b o q => (hok b o q).stay (fun c v hc r => by
    have hc' : c ≠ be.locals := fun z => by
      rcases hc with hc | hc
      · rw [← hc, z, hH2C] at q
        cases q
      · rw [z, hH2C] at hc
        cases hc
    exact (hBne c hc').trans r) (fun _ r => r) fun _ _ r => r
  refine tk _ _ ⟨a, B', { s3 with heap := G, gens := s'.gens, drawn := s'.drawn, toks := s'.toks }, pins, σ, H2, cls, d, rfl, ?_, fun b o e hb => ?_, fun b o e hn => ?_, .inr (.inr ?_), na, os.trans I1.os, ag, hE⟩
  · exact I3.call' (ch := fp) rfl un (hok'.kept gB) ag fun b hb => ⟨(f3 b hb).1.2.2.2.1, (f3 b hb).1.2.1, (f3 b hb).1.2.2.2.2.1, (f3 b hb).1.2.2.2.2.2⟩
  · rcases (gO b o e).2 with h | h
    · obtain ⟨o', q⟩ := Option.isSome_iff_exists.mp h
      have z := gB b o' q
      rw [show G.get? b = some o from e] at z
      cases z
      exact q
    · exact absurd h hb
  · obtain ⟨sl1, e1⟩ := up b o (gO b o e).1 hn
    obtain ⟨sl2, e2⟩ := up2 b _ ((same.2 b (gC b o e)).trans e1) hn
    exact ⟨sl2, e2⟩
  · rw [hs]
    exact held2
end
/-- the list comprehension as a value; its element may be refused by E -/
theorem pe_lcX {X : Cx} {E : XK} {elt tg it : Expr} {ifs : List Expr} {scope : Scope} {own : List (Str × Nat)} {pos : Pos} {wi : TI} {g : TG} {tt : TT} {te : TE} (hstk : X.stack = X.env :: X.outer) (hfrm : X.env.frame = some X.env.locals) (tk : Takes X (fun cls d _ H => E cls d H))
    (calm : X.calm = true) (hN : X.N.Nodup) (hit : PI X tg it wi) (bok : BlkOk X.N X.env.scope scope own)
    (hg : ∀ (s : Shared) (H : Hp) (C : Addr) (cl : List (Str × Addr)) (fp : List Addr), PG (X.blk s H scope (compEnvC scope cl C X.env) fp) tg g)
    (ht : ∀ (s : Shared) (H : Hp) (C : Addr) (cl : List (Str × Addr)) (fp : List Addr), PTs (X.blk s H scope (compEnvC scope cl C X.env) fp) ifs tt)
    (he : ∀ (s : Shared) (H : Hp) (C : Addr) (cl : List (Str × Addr)) (fp : List Addr), PE (blkX X s H scope (compEnvC scope cl C X.env) fp E) elt te) (hfold : ∀ x, foldedSetIterable it X.env x = pure x := by intro _; rfl) :
    PE X (.ListComp elt [⟨tg, it, ifs, 0⟩] scope pos) (tLc wi g tt te (own.map (·.2))) := by
  refine ⟨fun pins s0 σ H Q I0 hread => ?_⟩
  rw [eval_ListComp]
  have captured : ∀ y ∈ scope.names, y.2 = .free → ∃ c, X.env.cells.lookup y.1 = some c := fun y hy ey =>
    (bok.free y hy ey).elim (fun k => I0.ok.has _ (.inl k)) fun k => I0.ok.has _ (.inr k)
  refine comp_passes rfl hfold (closure_ok captured) bok.kind (fun y hy ey => by rw [bok.uniq y hy, ey]) (thn (hit.run pins s0 σ H _ I0 hread) fun xv t1 hx => thn hx fun itv t2 hy => ?_)
  obtain ⟨ia, fp, tn, J, H2, eit, I2, T, st2, fr2, q2⟩ := hy
  subst eit
  refine wpAny_newObj_type (newEnv_comp ?_) (Nat.zero_le _)
  -- D: the list that grows
  obtain ⟨D, eD⟩ : ∃ D, D = t2.heap.objs.size := ⟨_, rfl⟩
  have freshD : H2 D = none := I2.hok.fresh (Nat.le_of_eq eD.symm)
  obtain ⟨Wd, ⟨n0, wd0⟩, walk⟩ := q2 D freshD
  rw [← eD]
  obtain ⟨t3, et3⟩ : ∃ t3 : Shared, t3 = { t2 with heap := t2.heap.push { cls := .type "list", data := .seq ([] : List Value).toArray } } := ⟨_, rfl⟩
  have hp3 : t3.heap = t2.heap.push { cls := .type "list", data := .seq ([] : List Value).toArray } := by rw [et3]
  obtain ⟨H3, eH3⟩ : ∃ H3, H3 = upd H2 D (.lst []) := ⟨_, rfl⟩
  have I3 : Inv X pins σ H3 t3 := by
    rw [et3, eH3]
    refine I2.laid (t' := t2.toks) (fun b o e => Heap.get?_push_of_some _ e) (Nat.le_of_eq eD.symm) ⟨Nat.zero_le _, [], 0, .nil, ?_⟩
    rw [eD]
    exact Heap.get?_push_size _ rfl
  have under : ∀ b ∈ fp, b < t2.heap.objs.size := fun b hb => (T.obj _ _ st2 b hb).elim fun o z => Heap.lt_size z.1
  have fr3 : ∀ b ∈ fp, FpOk X pins H3 b ∧ b < t3.heap.objs.size := fun b hb => by
    have lt := under b hb
    refine ⟨⟨?_, (fr2 b hb).2⟩, by rw [hp3, Heap.size_push]; exact Nat.lt_succ_of_lt lt⟩
    rw [eH3, upd_ne (by rw [eD]; exact Nat.ne_of_lt lt)]
    exact (fr2 b hb).1
  have st3 : tn 0 t3.heap := T.keep _ _ _ st2 fun b _ o e => by rw [hp3]; exact Heap.get?_push_of_some _ e
  obtain ⟨cl, ecl⟩ : ∃ cl, cl = cellsFrom (t3.heap.objs.size + 1) scope.names (cloFrom X.env.cells scope.names []) := ⟨_, rfl⟩
  have Jg := hg t3 H3 t3.heap.objs.size cl fp
  have Jt := ht t3 H3 t3.heap.objs.size cl fp
  have Je := he t3 H3 t3.heap.objs.size cl fp
  have I4 := block_start I3 bok hN fr3
  rw [← ecl] at I4
  obtain ⟨t4, et4⟩ : ∃ t4 : Shared, t4 = { t3 with heap := pushCells (t3.heap.push { cls := .type "dict", data := .dict #[] }) scope.names } := ⟨_, rfl⟩
  rw [← et4] at I4
  have none3 : ∀ b ∈ fp, H3 b = none := fun b hb => (fr3 b hb).1.1
  have st4 : tn 0 t4.heap := T.keep _ _ _ st3 fun b _ o e => by rw [et4]; exact pushCells_keeps _ _ _ _ (Heap.get?_push_of_some _ e)
  obtain ⟨be, ebe⟩ : ∃ be, be = compEnvC scope cl t3.heap.objs.size X.env := ⟨_, rfl⟩
  have beL : be.locals = t3.heap.objs.size := by rw [ebe]; rfl
  have beF : be.frame = X.env.frame := by rw [ebe]; rfl
  rw [← ebe] at Jg Jt Je I4
  have goal : codeAny (model X.prog X.w) X.A (.compStart (.ListComp elt [⟨tg, it, ifs, 0⟩] scope pos) 0 (.ref ia) (.ref D) be) (BlkEnd (model X.prog X.w) X.A X.xe (EP X pins σ Q) (.ref D) be) t4 := by
    have ownFp : ∀ {σ' : L2.St} {H' : Hp} {s' : Shared}, Inv (X.blk t3 H3 scope be fp) [] σ' H' s' → (∀ b ∈ fp, H' b = none) → ∀ b ∈ fp, FpOk (X.blk t3 H3 scope be fp) [] H' b := fun {σ' H' s'} I' hn b hb =>
      ⟨hn b hb, (I'.ok.exf b hb).1, I'.ok.exfs b hb, .inl hb, fun x c e => (I'.ok.exf b hb).2 x c e, fun p hp => nomatch (show p ∈ ([] : List (Addr × Obj)) from hp)⟩
    have loop : codeAny (model X.prog X.w) X.A (.compLoop (.ListComp elt [⟨tg, it, ifs, 0⟩] scope pos) 0 (.ref ia) (.ref D) be) (BlkEnd (model X.prog X.w) X.A X.xe (EP X pins σ Q) (.ref D) be) t4 := by
      refine compLoop_any (fun n st => ∃ i H', Inv (X.blk t3 H3 scope be fp) [] (wipe σ (own.map (·.2))) H' st ∧ tn i st.heap ∧ (∀ b ∈ fp, H' b = none) ∧ Wd i n H') ?_ n0 ⟨0, H3, I4, st4, none3, by rw [eH3]; exact wd0⟩
      rintro n t5 ⟨i, H5, I5, st5, none5, wd5⟩
      rcases walk i n H5 wd5 with ⟨stop, fin⟩ | ⟨go, Nx, later, step⟩
      · refine thnF (T.done (X.blk t3 H3 scope be fp) rfl rfl rfl calm i [] t5 _ H5 (fun _ _ => False) I5 (ownFp I5 none5) st5 stop) fun r t6 hr => ?_
        obtain ⟨hr, I6⟩ := hr
        subst hr
        have Iout : Inv X pins σ H5 t6 := I3.call' (ch := fp) I6.os I6.base I6.hok I6.bare fun b hb =>
          let z := (fr3 b hb).1
          ⟨z.2.2.2.1, z.2.1, z.2.2.2.2.1, z.2.2.2.2.2⟩
        have noC : H5 be.locals = none := I6.free
        obtain ⟨mp, hns, _⟩ := I6.loc
        refine ⟨mp, hns, fun hp sb => ?_⟩
        obtain ⟨k0, k1, k2, k3, k4, k5⟩ := I3.fpOk (b := be.locals) (H' := H5) (Nat.le_of_eq beL.symm) noC
        exact ⟨.ref D, H5, Iout.turned (t' := t6.toks) (fun b o hb e => (sb.2 b hb).trans e) k0 k1 k3 k4 k5, rfl, fin⟩
      · refine thnF (T.item (X.blk t3 H3 scope be fp) rfl rfl rfl calm i [] t5 _ H5 (fun _ _ => False) I5 (ownFp I5 none5) st5 go) fun r t6 hr => ?_
        obtain ⟨v, hr, h6⟩ := hr
        subst hr
        refine thnF h6 fun _ t7 h7 => ?_
        obtain ⟨x, H7, I7, rel, yld, st7, none7⟩ := h7
        refine thnF (Jg.run _ t7 _ H7 x v _ (I7.pinned (ownFp I7 none7) (T.obj _ _ st7)) rel (step x H7 yld)) fun _ t8 h8 => ?_
        obtain ⟨σ8, H8, I8, wp8, q8⟩ := h8
        refine thnF (Jt.run _ t8 σ8 H8 _ I8 q8) fun b t9 h9 => ?_
        obtain ⟨H9, I9, q9⟩ := h9
        have turnEnd : ∀ {st : Shared} {H' : Hp}, Inv (X.blk t3 H3 scope be fp) ([] ++ pinsAt fp t7.heap) σ8 H' st → Nx H' → ∃ n', n' < n ∧ ∃ i H', Inv (X.blk t3 H3 scope be fp) [] (wipe σ (own.map (·.2))) H' st ∧ tn i st.heap ∧ (∀ b ∈ fp, H' b = none) ∧ Wd i n' H' := fun {st H'} I' nx => by
          obtain ⟨n', less, wd'⟩ := later H' nx
          have stays : ∀ b ∈ fp, ∀ o, t7.heap.get? b = some o → st.heap.get? b = some o ∧ H' b = none := fun b hb o e => by
            obtain ⟨z1, z2, _⟩ := I'.pin (b, o) (List.mem_append_right _ (List.mem_append_right _ (mem_pinsAt hb e)))
            exact ⟨z1, z2⟩
          refine ⟨n', less, i + 1, H', (I'.unpinned (pins := [])).weak (by rw [← wp8, wipe_length]) (fun j v' e => ?_), T.keep _ _ _ st7 fun b hb o e => (stays b hb o e).1, fun b hb => ?_, wd'⟩
          · rw [← wp8] at e
            exact (wipe_some e).1
          · obtain ⟨o, e, _⟩ := T.obj _ _ st7 b hb
            exact (stays b hb o e).2
        cases b with
        | false =>
          rw [if_neg (by decide)] at q9
          rw [if_neg (by decide)]
          exact turnEnd I9 q9
        | true =>
          rw [if_pos rfl] at q9
          rw [if_pos rfl]
          refine wpAny_mono (Je.run _ t9 σ8 H9 _ (inv_blkX I9) q9) (fun z t10 h10 => ?_) fun e st hx => block_out hstk hfrm tk I3 fr3 beF hx
          obtain ⟨y, H10, I10, r10, acc, hD10, few, nx⟩ := h10
          exact app_ok (X := X.blk t3 H3 scope be fp) (inv_blk0 I10) hD10 few r10 fun t11 I11 => turnEnd I11 nx
    exact codeAny_compStart_list loop (T.self X.A 0 _ _ _ st4 loop)
  rw [ebe, ecl, et4] at goal
  rw [et3] at goal
  exact goal
end Hl
/-! The tactic that evaluates readings: walk_at "ev" (an own line at the library's word). -/
local macro_rules | `(tactic| walk_at "side") => `(tactic| first | assumption | rfl | decide | omega | (constructor <;> omega) | (refine And.intro ?_ ?_ <;> first | decide | omega) | (refine Or.inl ⟨?_, ?_⟩ <;> omega) | (refine Or.inr ⟨?_, ?_⟩ <;> omega))
local macro_rules | `(tactic| walk_at "ev") => `(tactic| first
  | assumption
  | exact Evl.ev_c
  | exact Evl.ev_var rfl
  | exact Evl.ea_nil
  | (refine' Evl.ea_cons ?ha ?hb; (case ha => walk_at "ev"); (case hb => walk_at "ev"))
  | (refine' Evl.ev_notV ?ha; (case ha => walk_at "ev"))
  | (refine' Hl.ev_chain ?ha ?hb ?hc ?hd ?he; (case ha => walk_at "ev"); (case hb => walk_at "ev"); (case hc => walk_at "ev"); (case hd => walk_at "ev"); (case he => walk_at "ev"))
  | (refine' Evl.ev_op ?ha ?hb ?hc; (case ha => walk_at "ev"); (case hb => walk_at "ev"); (case hc => walk_at "ev"))
  | (refine' Evl.ev_un ?ha ?hb; (case ha => walk_at "ev"); (case hb => walk_at "ev"))
  | exact Evl.rv_I0
  | (refine' Evl.rv_I ?ha; (case ha => walk_at "side"))
  | exact Evl.ru_neg
  | exact Evl.rv_eq rfl
  | exact Evl.rv_ne rfl
  | exact Evl.rv_ixL (by assumption) (by assumption)
  | exact Evl.rv_ixT (by assumption) (by assumption)
  | (refine' Evl.et_test ?ha; (case ha => walk_at "ev"))
  | (refine' Evl.et_B ?ha; (case ha => walk_at "ev"))
  | (refine' Evl.et_not ?ha; (case ha => walk_at "ev")))
/-! The text by places; what every def's context says of exceptions. -/
namespace Hl
open PySem PySem.Spec PyProof.Rows L2 Evl
def topS (i : Nat) : Stmt := PySem.Challenge.pw_hillrows_k07_groves.main.body.getD i (.Pass ⟨0, 0, 0, 0⟩)
end Hl
/-! Plain mathematics: the number of ways, tables of them. No program here. -/
namespace Hl
/-- a ceiling stands below a height -/
def over (c : Option Nat) (h : Nat) : Bool := match c with | none => false | some m => decide (m < h)
/-- ways from a height, with so many signs left -/
def W (c : Option Nat) : Nat → Nat → Nat
  | 0, h => if h = 0 then 1 else 0
  | l + 1, h => if over c h = true then 0 else (if h = 0 then 0 else W c l (h - 1)) + W c l (h + 1)
theorem W_over {c : Option Nat} : ∀ {l h : Nat}, over c h = true → W c l h = 0
  | 0, h, e => by
    have : h ≠ 0 := by
      intro z; subst z
      cases c with
      | none => cases e
      | some m => simp [over] at e
    simp [W, this]
  | l + 1, h, e => by
    unfold W
    rw [if_pos e]
theorem W_far {c : Option Nat} : ∀ {l h : Nat}, l < h → W c l h = 0
  | 0, h, e => by
    have : h ≠ 0 := by omega
    simp [W, this]
  | l + 1, h, e => by
    unfold W
    split
    · rfl
    · have h1 : W c l (h - 1) = 0 := W_far (by omega)
      have h2 : W c l (h + 1) = 0 := W_far (by omega)
      rw [h1, h2]
      split <;> rfl
theorem W_step {c : Option Nat} {l h : Nat} (e : over c h = false) : W c (l + 1) h = (if h = 0 then 0 else W c l (h - 1)) + W c l (h + 1) := by
  conv => lhs; unfold W
  rw [if_neg (by rw [e]; decide)]
/-- for any int height -/
def WZ (c : Option Nat) (l : Nat) (h : Int) : Nat := if h < 0 then 0 else W c l h.toNat
theorem WZ_nat (c : Option Nat) (l h : Nat) : WZ c l (h : Int) = W c l h := by
  unfold WZ
  rw [if_neg (by omega)]
  simp
/-- the greatest height of the table's columns -/
def topOf (c : Option Nat) (L : Nat) : Nat := match c with | none => L | some m => min L m
/-- a row of the table -/
def rowT (c : Option Nat) (L l : Nat) : List Int := (List.range (topOf c L + 1)).map (fun h => (W c l h : Int)) ++ [0]
theorem rowT_len (c : Option Nat) (L l : Nat) : (rowT c L l).length = topOf c L + 2 := by simp [rowT]
theorem top_last {c : Option Nat} {L l : Nat} (h : l ≤ L) : W c l (topOf c L + 1) = 0 := by
  cases c with
  | none => exact W_far (by show l < L + 1; omega)
  | some m =>
    show W (some m) l (min L m + 1) = 0
    by_cases hm : m ≤ L
    · exact W_over (by simp [over]; omega)
    · exact W_far (by omega)
theorem rowT_get {c : Option Nat} {L l h : Nat} (hl : l ≤ L) (hh : h ≤ topOf c L + 1) : (rowT c L l)[h]? = some (W c l h : Int) := by
  unfold rowT
  by_cases e : h < topOf c L + 1
  · rw [List.getElem?_append_left (by simpa using e)]
    simp [e]
  · have e2 : h = topOf c L + 1 := by omega
    subst e2
    rw [List.getElem?_append_right (by simp)]
    simp [top_last hl]
theorem W_beyond {c : Option Nat} {L l h : Nat} (hl : l ≤ L) (hh : topOf c L + 1 < h) : W c l h = 0 := by
  cases c with
  | none => exact W_far (by have : topOf none L = L := rfl; omega)
  | some m =>
    have : topOf (some m) L = min L m := rfl
    by_cases hm : m ≤ L
    · exact W_over (by simp [over]; omega)
    · exact W_far (by omega)
theorem not_over_top {c : Option Nat} {L h : Nat} (hh : h ≤ topOf c L) : over c h = false := by
  cases c with
  | none => rfl
  | some m =>
    have : topOf (some m) L = min L m := rfl
    simp [over]; omega
/-- what a turn builds: the first g + 1 entries -/
def rowPart (c : Option Nat) (l g : Nat) : List Int := (List.range (g + 1)).map (fun h => (W c l h : Int))
theorem rowPart_zero (c : Option Nat) (l : Nat) : rowPart c (l + 1) 0 = [(W c l 1 : Int)] := by
  have e : over c 0 = false := by cases c with
    | none => rfl
    | some m => simp [over]
  simp [rowPart, List.range_succ, W_step e]
theorem rowPart_succ {c : Option Nat} {L l g : Nat} (hg : g + 1 ≤ topOf c L) : rowPart c (l + 1) (g + 1) = rowPart c (l + 1) g ++ [(W c l g : Int) + (W c l (g + 2) : Int)] := by
  have e : over c (g + 1) = false := not_over_top hg
  have h2 : W c (l + 1) (g + 1) = W c l g + W c l (g + 1 + 1) := by
    rw [W_step e, if_neg (by omega)]
    rfl
  unfold rowPart
  rw [List.range_succ, List.map_append]
  simp [h2]
theorem rowPart_done (c : Option Nat) (L l : Nat) : rowPart c l (topOf c L) ++ [0] = rowT c L l := rfl
theorem rowT_zero (c : Option Nat) (L : Nat) : rowT c L 0 = [1] ++ List.replicate (topOf c L + 1) 0 := by
  unfold rowT
  have : ∀ n, (List.range (n + 1)).map (fun h => ((W c 0 h : Nat) : Int)) = 1 :: List.replicate n 0 := by
    intro n
    induction n with
    | zero => rfl
    | succ n ih =>
      rw [List.range_succ, List.map_append, ih, List.replicate_succ' (n := n)]
      simp [W]
  rw [this, List.replicate_succ' (n := topOf c L)]
  simp
theorem W_free {m : Nat} : ∀ {l h : Nat}, h + l ≤ m → W (some m) l h = W none l h
  | 0, h, _ => rfl
  | l + 1, h, e => by
    have o : over (some m) h = false := by simp [over]; omega
    rw [W_step o, W_step (c := none) rfl, W_free (l := l) (h := h + 1) (by omega)]
    by_cases z : h = 0
    · rw [if_pos z, if_pos z]
    · rw [if_neg z, if_neg z, W_free (l := l) (h := h - 1) (by omega)]
end Hl
/-! Plain mathematics: rows as lists of Bools (true an up), growing beginnings. -/
namespace Hl
/-- all beginnings of so many signs, with their heights, in the order of texts (d ahead of u) -/
def growOne (c : Option Nat) (p : List Bool × Nat) : List (List Bool × Nat) :=
  (if 0 < p.2 then [(p.1 ++ [false], p.2 - 1)] else []) ++ (if over c (p.2 + 1) = true then [] else [(p.1 ++ [true], p.2 + 1)])
def grow (c : Option Nat) (l : List (List Bool × Nat)) : List (List Bool × Nat) := l.flatMap (growOne c)
def grown (c : Option Nat) : Nat → List (List Bool × Nat)
  | 0 => [([], 0)]
  | k + 1 => grow c (grown c k)
def allRows (c : Option Nat) (n : Nat) : List (List Bool) := ((grown c (2 * n)).filter fun p => decide (p.2 = 0)).map (·.1)
/-- the ways that lead on from these, together -/
def waysOf (c : Option Nat) (l : Nat) (ps : List (List Bool × Nat)) : Nat := (ps.map fun p => W c l p.2).sum
theorem waysOf_append (c : Option Nat) (l : Nat) (a b : List (List Bool × Nat)) : waysOf c l (a ++ b) = waysOf c l a + waysOf c l b := by simp [waysOf]
theorem ways_one {c : Option Nat} {l : Nat} {p : List Bool × Nat} (h : over c p.2 = false) : waysOf c l (growOne c p) = W c (l + 1) p.2 := by
  rw [W_step h]
  unfold growOne
  rw [waysOf_append]
  have h1 : waysOf c l (if 0 < p.2 then [(p.1 ++ [false], p.2 - 1)] else []) = (if p.2 = 0 then 0 else W c l (p.2 - 1)) := by
    by_cases z : p.2 = 0
    · rw [if_neg (by omega), if_pos z]; rfl
    · rw [if_pos (by omega), if_neg z]; simp [waysOf]
  have h2 : waysOf c l (if over c (p.2 + 1) = true then [] else [(p.1 ++ [true], p.2 + 1)]) = W c l (p.2 + 1) := by
    by_cases z : over c (p.2 + 1) = true
    · rw [if_pos z, W_over z]; rfl
    · rw [if_neg z]; simp [waysOf]
  rw [h1, h2]
theorem not_over_down {c : Option Nat} {h : Nat} (e : over c h = false) : over c (h - 1) = false := by
  cases c with
  | none => rfl
  | some m => simp [over] at *; omega
theorem grow_ok {c : Option Nat} {ps : List (List Bool × Nat)} (h : ∀ p ∈ ps, over c p.2 = false) : ∀ p ∈ grow c ps, over c p.2 = false := by
  intro p hp
  obtain ⟨q, hq, hm⟩ := List.mem_flatMap.mp hp
  unfold growOne at hm
  rcases List.mem_append.mp hm with hm | hm
  · split at hm
    · simp at hm
      subst hm
      exact not_over_down (h q hq)
    · simp at hm
  · split at hm
    · simp at hm
    · simp at hm
      subst hm
      rename_i z
      simpa using z
theorem grown_ok (c : Option Nat) : ∀ k, ∀ p ∈ grown c k, over c p.2 = false
  | 0, p, hp => by
    simp [grown] at hp
    subst hp
    cases c with
    | none => rfl
    | some m => simp [over]
  | k + 1, p, hp => grow_ok (grown_ok c k) p hp
theorem ways_grow {c : Option Nat} {l : Nat} : ∀ {ps : List (List Bool × Nat)}, (∀ p ∈ ps, over c p.2 = false) → waysOf c l (grow c ps) = waysOf c (l + 1) ps
  | [], _ => rfl
  | p :: ps, h => by
    have e : grow c (p :: ps) = growOne c p ++ grow c ps := rfl
    rw [e, waysOf_append, ways_one (h p List.mem_cons_self), ways_grow fun q hq => h q (List.mem_cons_of_mem _ hq)]
    simp [waysOf]
theorem ways_grown (c : Option Nat) : ∀ (k l : Nat), waysOf c l (grown c k) = W c (l + k) 0
  | 0, l => by simp [grown, waysOf]
  | k + 1, l => by
    show waysOf c l (grow c (grown c k)) = _
    rw [ways_grow (grown_ok c k), ways_grown c k (l + 1)]
    congr 1
    omega
theorem ways_zero (c : Option Nat) : ∀ ps : List (List Bool × Nat), waysOf c 0 ps = (ps.filter fun p => decide (p.2 = 0)).length
  | [] => rfl
  | p :: ps => by
    have ih := ways_zero c ps
    have e : waysOf c 0 (p :: ps) = W c 0 p.2 + waysOf c 0 ps := by simp [waysOf]
    rw [e, ih, List.filter_cons]
    by_cases z : p.2 = 0
    · simp [z, W]; omega
    · simp [z, W]
theorem allRows_len (c : Option Nat) (n : Nat) : (allRows c n).length = W c (2 * n) 0 := by
  unfold allRows
  rw [List.length_map, ← ways_zero c, ways_grown]
  simp
theorem growOne_len (c : Option Nat) (p : List Bool × Nat) : (growOne c p).length ≤ 2 := by
  unfold growOne
  rw [List.length_append]
  split <;> split <;> simp
theorem grow_len (c : Option Nat) : ∀ ps : List (List Bool × Nat), (grow c ps).length ≤ 2 * ps.length
  | [] => Nat.zero_le _
  | p :: ps => by
    have e : grow c (p :: ps) = growOne c p ++ grow c ps := rfl
    have h1 := growOne_len c p
    have h2 := grow_len c ps
    rw [e, List.length_append, List.length_cons]
    omega
theorem grown_len (c : Option Nat) : ∀ k, (grown c k).length ≤ 2 ^ k
  | 0 => by simp [grown]
  | k + 1 => by
    have h1 := grown_len c k
    have h2 := grow_len c (grown c k)
    show (grow c (grown c k)).length ≤ 2 ^ (k + 1)
    rw [Nat.pow_succ]
    omega
theorem grown_row (c : Option Nat) : ∀ k, ∀ p ∈ grown c k, p.1.length = k ∧ p.2 ≤ k
  | 0, p, hp => by
    simp [grown] at hp
    subst hp
    exact ⟨rfl, Nat.le_refl _⟩
  | k + 1, p, hp => by
    obtain ⟨q, hq, hm⟩ := List.mem_flatMap.mp (show p ∈ grow c (grown c k) from hp)
    obtain ⟨h1, h2⟩ := grown_row c k q hq
    unfold growOne at hm
    rcases List.mem_append.mp hm with hm | hm
    · split at hm
      · simp at hm
        subst hm
        exact ⟨by simp [h1], by show q.2 - 1 ≤ k + 1; omega⟩
      · simp at hm
    · split at hm
      · simp at hm
      · simp at hm
        subst hm
        exact ⟨by simp [h1], by show q.2 + 1 ≤ k + 1; omega⟩
end Hl
/-! errors, rows, counts: what the defs promise. -/
namespace Hl
open PySem PySem.Spec PyProof.Rows L2 Evl


/-- a plain thing: no object -/
inductive Plain : V → Prop where
  | non : Plain .non
  | bl (b : Bool) : Plain (.bl b)
  | int (i : Int) : Plain (.int i)
  | str (z : Str) : Plain (.str z)
def isNum (x : V) (lo hi : Int) : Bool := match x with
  | .int i => decide (lo ≤ i) && decide (i ≤ hi)
  | _ => false
def spIsNumber : Sp := fun vs H Q _ => ∃ (x : V) (lo hi : Int), vs = [x, .int lo, .int hi] ∧ Plain x ∧ RetV (.bl (isNum x lo hi)) H Q
section
variable {P : Program} {w : World} {K : PySem.W.Frag} {mg : Str → Option Value} {base : Heap} {f : Addr} {fd : FuncData}
theorem ev_isi {σ : L2.St} {H : Hp} {ta tc : TE} {x : V} {n : String} {T : String} {b : Bool} (h1 : Ev ta σ H x) (h2 : Ev tc σ H (.ty n)) (ht : TyX K H x (.type T)) (hk : kitB T n = some b) (hm : ∀ H1, Ex H H1 → TyX K H1 x (.type T)) : Ev (tCB (rIsi K) (tCons ta (tCons tc tNil))) σ H (.bl b) :=
  ev_cb (ea_cons h1 (ea_cons h2 ea_nil)) fun H1 e Q q => ⟨x, .ty n, _, _, b, rfl, .ty n, hm H1 e, kit_ty hk, q H1 (Ex.refl H1)⟩
def ceilV : Option Nat → V
  | none => .non
  | some m => .int m
def okCeil (x : V) : Bool := match x with
  | .non => true
  | x => isNum x 0 200
theorem plain_ceil (c : Option Nat) : Plain (ceilV c) := by
  cases c with
  | none => exact .non
  | some m => exact .int _
theorem ok_ceil {c : Option Nat} (h : ∀ m, c = some m → m ≤ 200) : okCeil (ceilV c) = true := by
  cases c with
  | none => rfl
  | some m =>
    have := h m rfl
    simp [okCeil, ceilV, isNum]
    omega
theorem ceil_of {x : V} (h : okCeil x = true) : ∃ c : Option Nat, x = ceilV c ∧ ∀ m, c = some m → m ≤ 200 := by
  cases x with
  | non => exact ⟨none, rfl, fun _ e => by cases e⟩
  | int i =>
    have h2 : (decide (0 ≤ i) && decide (i ≤ 200)) = true := h
    simp at h2
    refine ⟨some i.toNat, ?_, fun m e => ?_⟩
    · show V.int i = V.int (i.toNat : Int)
      rw [Int.toNat_of_nonneg h2.1]
    · cases e
      omega
  | _ => cases h
def spNeedCeiling (C : Addr) : Sp := fun vs H Q E => ∃ x : V, vs = [x] ∧ Plain x ∧ (okCeil x = true → RetV .non H Q) ∧ (okCeil x = false → rx C H E)
theorem plain_non {x : V} (h : Plain x) : decide (x = V.non) = true ↔ x = .non := by simp
theorem rv_isN {x : V} {H : Hp} : RV (fun x y H Q => y = V.non ∧ Q (.bl (decide (x = V.non))) H) x .non H (.bl (decide (x = V.non))) := fun H1 _ Q q => ⟨rfl, q H1 (Ex.refl H1)⟩
theorem rv_notN {x : V} {H : Hp} : RV (fun x y H Q => y = V.non ∧ Q (.bl (!decide (x = V.non))) H) x .non H (.bl (!decide (x = V.non))) := fun H1 _ Q q => ⟨rfl, q H1 (Ex.refl H1)⟩
/-- is_number's call -/
theorem ev_isNumber {σ : L2.St} {H : Hp} {ta tb tc : TE} {x : V} {lo hi : Int} {E : XK} (hp : Plain x) (h1 : Ev ta σ H x) (h2 : Ev tb σ H (.int lo)) (h3 : Ev tc σ H (.int hi)) : Ev (tCall spIsNumber [] E (tCons ta (tCons tb (tCons tc tNil)))) σ H (.bl (isNum x lo hi)) :=
  ev_call (ea_cons h1 (ea_cons h2 (ea_cons h3 ea_nil))) fun H1 _ Q q _ => ⟨x, lo, hi, rfl, hp, q⟩



/-- a table of the ways stands at v -/
def TabAt (K : PySem.W.Frag) (c : Option Nat) (L : Nat) (v : V) (H : Hp) : Prop := ∃ (p : Addr) (as : List Addr), v = .ref p ∧ SqL K H p (as.map V.ref) ∧ as.length = L + 1 ∧ ∀ (l : Nat) (a : Addr), as[l]? = some a → SqL K H a ((rowT c L l).map V.int)
theorem TabAt.mono {c : Option Nat} {L : Nat} {v : V} {H H' : Hp} (e : Ex H H') (h : TabAt K c L v H) : TabAt K c L v H' := by
  obtain ⟨p, as, rfl, hS, hl, hr⟩ := h
  exact ⟨p, as, rfl, ex_l e hS, hl, fun l a ha => ex_l e (hr l a ha)⟩
def spTableOf (K : PySem.W.Frag) : Sp := fun vs H Q _ => ∃ (L : Nat) (c : Option Nat), vs = [.int L, ceilV c] ∧ L ≤ 1000 ∧ rg (TabAt K c L) H Q
def spFromTable (K : PySem.W.Frag) : Sp := fun vs H Q _ => ∃ (v : V) (c : Option Nat) (L l : Nat) (h : Int), vs = [v, .int h, .int l] ∧ TabAt K c L v H ∧ l ≤ L ∧ RetV (.int (WZ c l h)) H Q
theorem lt_len_table {K : PySem.W.Frag} {c : Option Nat} {L l : Nat} {h : Int} (hl : l ≤ L) (h0 : 0 ≤ h) (hh : ((rowT c L l).length : Int) ≤ h) : WZ c l h = 0 := by
  obtain ⟨n, rfl⟩ := Int.eq_ofNat_of_zero_le h0
  rw [WZ_nat]
  rw [rowT_len] at hh
  exact W_beyond hl (by omega)
/-- counted: C the class of its refusal -/
def spCounted (C : Addr) : Sp := fun vs H Q E => ∃ x y : V, vs = [x, y] ∧ Plain x ∧ Plain y ∧ (∀ (n : Nat) (c : Option Nat), x = .int n → n ≤ 200 → y = ceilV c → (∀ m, c = some m → m ≤ 200) → RetV (.int (W c (2 * n) 0)) H Q) ∧
  (isNum x 0 200 = false ∨ okCeil y = false → rx C H E)
theorem num_of {x : V} {lo hi : Int} (h : isNum x lo hi = true) : ∃ i : Int, x = .int i ∧ lo ≤ i ∧ i ≤ hi := by
  cases x with
  | int i =>
    have h2 : (decide (lo ≤ i) && decide (i ≤ hi)) = true := h
    simp at h2
    exact ⟨i, rfl, h2⟩
  | _ => cases h
theorem nat_of {x : V} {hi : Int} (h : isNum x 0 hi = true) : ∃ n : Nat, x = .int n ∧ (n : Int) ≤ hi := by
  obtain ⟨i, rfl, h0, h1⟩ := num_of h
  obtain ⟨n, rfl⟩ := Int.eq_ofNat_of_zero_le h0
  exact ⟨n, rfl, h1⟩
theorem need_ok {σ : L2.St} {H : Hp} {ta : TE} {y : V} {C : Addr} {E : XK} (hp : Plain y) (h1 : Ev ta σ H y) (hy : okCeil y = true) : Ev (tCall (spNeedCeiling C) [] E (tCons ta tNil)) σ H .non :=
  ev_call (ea_cons h1 ea_nil) fun H1 _ Q q E => ⟨y, rfl, hp, fun _ => q, fun z => absurd hy (by rw [z]; decide)⟩
/-- the table, then a place of it -/
theorem ev_way {σ : L2.St} {H : Hp} {tl tc th tm : TE} {L l : Nat} {c : Option Nat} {h : Int} {E E' : XK} (hL : L ≤ 1000) (hl : l ≤ L) (h1 : Ev tl σ H (.int L)) (h2 : Ev tc σ H (ceilV c)) (h3 : Ev th σ H (.int h)) (h4 : Ev tm σ H (.int l)) :
    Ev (tCall (spFromTable K) [] E (tCons (tCall (spTableOf K) [] E' (tCons tl (tCons tc tNil))) (tCons th (tCons tm tNil)))) σ H (.int (WZ c l h)) :=
  ev_call1 (P := TabAt K c L) (eg_call (ea_cons h1 (ea_cons h2 ea_nil)) fun H1 _ Q q _ => ⟨L, c, rfl, hL, q⟩) (ea_cons h3 (ea_cons h4 ea_nil)) fun v H1 e1 hv H2 e2 Q q _ => ⟨v, c, L, l, h, rfl, hv.mono e2, hl, q⟩
theorem ev_counted {σ : L2.St} {H : Hp} {ta tb : TE} {n : Nat} {c : Option Nat} {C : Addr} {E : XK} (hn : n ≤ 200) (hc : ∀ m, c = some m → m ≤ 200) (h1 : Ev ta σ H (.int (n : Int))) (h2 : Ev tb σ H (ceilV c)) : Ev (tCall (spCounted C) [] E (tCons ta (tCons tb tNil))) σ H (.int (W c (2 * n) 0)) :=
  ev_call (ea_cons h1 (ea_cons h2 ea_nil)) fun H1 _ Q q E => ⟨_, _, rfl, .int _, plain_ceil c, fun n' c' e1 _ e2 _ => by
    have en : n = n' := by
      injection e1 with e1
      omega
    have ec : c = c' := by
      cases c <;> cases c' <;> first | rfl | (cases e2; done) | (injection e2 with e2; congr 1; omega)
    rw [← en, ← ec]
    exact q, fun z => by
    exfalso
    rcases z with z | z
    · have : isNum (.int (n : Int)) 0 200 = true := by simp [isNum]; omega
      rw [this] at z
      cases z
    · rw [ok_ceil hc] at z
      cases z⟩
theorem ev_counted_d {σ : L2.St} {H : Hp} {ta : TE} {n : Nat} {C : Addr} {E : XK} (hn : n ≤ 200) (h1 : Ev ta σ H (.int (n : Int))) : Ev (tCall (spCounted C) [.non] E (tCons ta tNil)) σ H (.int (W none (2 * n) 0)) :=
  fun H1 e Q q => h1 H1 e _ fun H2 e2 => ev_counted (E := E) (c := none) (tb := tC .non) hn (fun _ z => by cases z) (ta := tC (.int (n : Int))) (σ := σ) (H := H2) ev_c ev_c H2 (Ex.refl _) Q (fun H3 e3 => q H3 (e2.trans e3))
end
end Hl
/-! Plain mathematics: heights of rows, hill rows. -/
namespace Hl
def st (b : Bool) : Int := if b = true then 1 else -1
/-- the height at the end -/
def hgt : List Bool → Int
  | [] => 0
  | b :: w => st b + hgt w
theorem hgt_app : ∀ a b : List Bool, hgt (a ++ b) = hgt a + hgt b
  | [], b => by simp [hgt]
  | x :: a, b => by
    show st x + hgt (a ++ b) = st x + hgt a + hgt b
    rw [hgt_app a b]
    omega
theorem hgt_one (b : Bool) : hgt [b] = st b := by simp [hgt]
/-- the heights at all places -/
def htl (w : List Bool) : List Int := (List.range (w.length + 1)).map fun k => hgt (w.take k)
theorem htl_len (w : List Bool) : (htl w).length = w.length + 1 := by simp [htl]
theorem htl_get {w : List Bool} {k : Nat} (h : k ≤ w.length) : (htl w)[k]? = some (hgt (w.take k)) := by
  unfold htl
  rw [List.getElem?_map, List.getElem?_range (by omega)]
  rfl
theorem htl_snoc (w : List Bool) (b : Bool) : htl (w ++ [b]) = htl w ++ [hgt w + st b] := by
  unfold htl
  rw [List.length_append, List.length_singleton, List.range_succ, List.map_append]
  congr 1
  · refine List.map_congr_left fun k hk => ?_
    rw [List.take_append_of_le_length (by have := List.mem_range.mp hk; omega)]
  · rw [List.map_singleton, List.take_of_length_le (by simp), hgt_app, hgt_one]
theorem htl_last (w : List Bool) : (htl w)[w.length]? = some (hgt w) := by
  have := htl_get (w := w) (k := w.length) (Nat.le_refl _)
  rw [List.take_length] at this
  exact this
theorem mem_htl {w : List Bool} {y : Int} : y ∈ htl w ↔ ∃ k, k ≤ w.length ∧ y = hgt (w.take k) := by
  unfold htl
  rw [List.mem_map]
  constructor
  · rintro ⟨k, hk, rfl⟩
    exact ⟨k, by have := List.mem_range.mp hk; omega, rfl⟩
  · rintro ⟨k, hk, rfl⟩
    exact ⟨k, List.mem_range.mpr (by omega), rfl⟩
/-- a row stays at or above the ground -/
def upB (w : List Bool) : Bool := (htl w).all fun y => decide (0 ≤ y)
/-- a row stays at or below a ceiling -/
def lowB (c : Option Nat) (w : List Bool) : Bool := match c with
  | none => true
  | some m => (htl w).all fun y => decide (y ≤ (m : Int))
/-- a hill row under a ceiling -/
def hillB (c : Option Nat) (w : List Bool) : Bool := decide (hgt w = 0) && (upB w && lowB c w)
theorem upB_iff {w : List Bool} : upB w = true ↔ ∀ k, k ≤ w.length → 0 ≤ hgt (w.take k) := by
  unfold upB
  rw [List.all_eq_true]
  constructor
  · intro h k hk
    exact of_decide_eq_true (h _ (mem_htl.mpr ⟨k, hk, rfl⟩))
  · intro h y hy
    obtain ⟨k, hk, rfl⟩ := mem_htl.mp hy
    exact decide_eq_true (h k hk)
theorem lowB_iff {c : Option Nat} {w : List Bool} : lowB c w = true ↔ ∀ m, c = some m → ∀ k, k ≤ w.length → hgt (w.take k) ≤ (m : Int) := by
  cases c with
  | none => exact ⟨fun _ _ e => (by cases e), fun _ => rfl⟩
  | some m =>
    show ((htl w).all fun y => decide (y ≤ (m : Int))) = true ↔ _
    rw [List.all_eq_true]
    constructor
    · intro h m' e k hk
      cases e
      exact of_decide_eq_true (h _ (mem_htl.mpr ⟨k, hk, rfl⟩))
    · intro h y hy
      obtain ⟨k, hk, rfl⟩ := mem_htl.mp hy
      exact decide_eq_true (h m rfl k hk)
theorem hillB_iff {c : Option Nat} {w : List Bool} : hillB c w = true ↔ hgt w = 0 ∧ (∀ k, k ≤ w.length → 0 ≤ hgt (w.take k)) ∧ ∀ m, c = some m → ∀ k, k ≤ w.length → hgt (w.take k) ≤ (m : Int) := by
  unfold hillB
  rw [Bool.and_eq_true, Bool.and_eq_true, decide_eq_true_eq, upB_iff, lowB_iff]
theorem min_up {w : List Bool} {m : Int} (hm : m ∈ htl w) (hle : ∀ y ∈ htl w, m ≤ y) : decide (m = 0) = upB w := by
  have h0 : (0 : Int) ∈ htl w := mem_htl.mpr ⟨0, Nat.zero_le _, rfl⟩
  have hm0 := hle 0 h0
  by_cases z : m = 0
  · subst z
    rw [decide_eq_true rfl]
    symm
    unfold upB
    rw [List.all_eq_true]
    exact fun y hy => decide_eq_true (hle y hy)
  · rw [decide_eq_false z]
    symm
    rw [Bool.eq_false_iff]
    intro h
    unfold upB at h
    rw [List.all_eq_true] at h
    have := of_decide_eq_true (h m hm)
    omega
theorem max_low {w : List Bool} {m : Int} {c : Nat} (hm : m ∈ htl w) (hle : ∀ y ∈ htl w, y ≤ m) : decide (m ≤ (c : Int)) = lowB (some c) w := by
  show _ = (htl w).all fun y => decide (y ≤ (c : Int))
  by_cases z : m ≤ (c : Int)
  · rw [decide_eq_true z]
    symm
    rw [List.all_eq_true]
    exact fun y hy => decide_eq_true (Int.le_trans (hle y hy) z)
  · rw [decide_eq_false z]
    symm
    rw [Bool.eq_false_iff]
    intro h
    rw [List.all_eq_true] at h
    exact z (of_decide_eq_true (h m hm))
end Hl
/-! Plain mathematics: ranks of hill rows, rows of ranks. -/
namespace Hl
/-- a row leads from a height to the ground, never below it, never above the ceiling -/
def okF (c : Option Nat) : Nat → List Bool → Bool
  | h, [] => decide (h = 0)
  | h, true :: w => !over c (h + 1) && okF c (h + 1) w
  | h, false :: w => decide (0 < h) && okF c (h - 1) w
/-- how many come ahead -/
def rankF (c : Option Nat) : Nat → List Bool → Nat
  | _, [] => 0
  | h, true :: w => WZ c w.length ((h : Int) - 1) + rankF c (h + 1) w
  | h, false :: w => rankF c (h - 1) w
/-- the row of a rank -/
def rowF (c : Option Nat) : Nat → Nat → Nat → List Bool
  | 0, _, _ => []
  | l + 1, h, r => if r < WZ c l ((h : Int) - 1) then false :: rowF c l (h - 1) r else true :: rowF c l (h + 1) (r - WZ c l ((h : Int) - 1))
theorem WZ_down (c : Option Nat) (l h : Nat) : WZ c l ((h : Int) - 1) = if h = 0 then 0 else W c l (h - 1) := by
  unfold WZ
  by_cases z : h = 0
  · subst z
    rfl
  · rw [if_neg (by omega), if_neg z]
    congr 1
    omega
theorem W_step2 {c : Option Nat} {l h : Nat} (e : over c h = false) : W c (l + 1) h = WZ c l ((h : Int) - 1) + W c l (h + 1) := by rw [W_step e, WZ_down]
theorem rowF_len (c : Option Nat) : ∀ l h r, (rowF c l h r).length = l
  | 0, _, _ => rfl
  | l + 1, h, r => by
    unfold rowF
    split
    · simp [rowF_len c l]
    · simp [rowF_len c l]
theorem rankF_lt {c : Option Nat} : ∀ {w : List Bool} {h : Nat}, over c h = false → okF c h w = true → rankF c h w < W c w.length h
  | [], h, _, ok => by
    have : h = 0 := of_decide_eq_true ok
    subst this
    simp [rankF, W]
  | true :: w, h, o, ok => by
    have ok2 : (!over c (h + 1) && okF c (h + 1) w) = true := ok
    rw [Bool.and_eq_true, Bool.not_eq_true'] at ok2
    have ih := rankF_lt ok2.1 ok2.2
    show WZ c w.length ((h : Int) - 1) + rankF c (h + 1) w < W c (w.length + 1) h
    rw [W_step2 o]
    omega
  | false :: w, h, o, ok => by
    have ok2 : (decide (0 < h) && okF c (h - 1) w) = true := ok
    rw [Bool.and_eq_true, decide_eq_true_eq] at ok2
    have ih := rankF_lt (not_over_down o) ok2.2
    show rankF c (h - 1) w < W c (w.length + 1) h
    rw [W_step2 o, WZ_down, if_neg (by omega)]
    omega
theorem row_rank {c : Option Nat} : ∀ {w : List Bool} {h : Nat}, over c h = false → okF c h w = true → rowF c w.length h (rankF c h w) = w
  | [], h, _, ok => rfl
  | true :: w, h, o, ok => by
    have ok2 : (!over c (h + 1) && okF c (h + 1) w) = true := ok
    rw [Bool.and_eq_true, Bool.not_eq_true'] at ok2
    show rowF c (w.length + 1) h (WZ c w.length ((h : Int) - 1) + rankF c (h + 1) w) = true :: w
    unfold rowF
    rw [if_neg (by omega), Nat.add_sub_cancel_left, row_rank ok2.1 ok2.2]
  | false :: w, h, o, ok => by
    have ok2 : (decide (0 < h) && okF c (h - 1) w) = true := ok
    rw [Bool.and_eq_true, decide_eq_true_eq] at ok2
    have hl := rankF_lt (not_over_down o) ok2.2
    show rowF c (w.length + 1) h (rankF c (h - 1) w) = false :: w
    unfold rowF
    rw [if_pos (by rw [WZ_down, if_neg (by omega)]; exact hl), row_rank (not_over_down o) ok2.2]
theorem rowF_ok {c : Option Nat} : ∀ {l h r : Nat}, over c h = false → r < W c l h → okF c h (rowF c l h r) = true ∧ rankF c h (rowF c l h r) = r
  | 0, h, r, _, hr => by
    unfold W at hr
    split at hr
    · rename_i z
      exact ⟨decide_eq_true z, by unfold rowF rankF; omega⟩
    · omega
  | l + 1, h, r, o, hr => by
    rw [W_step2 o] at hr
    unfold rowF
    by_cases z : r < WZ c l ((h : Int) - 1)
    · rw [if_pos z]
      rw [WZ_down] at z
      have h0 : h ≠ 0 := by
        intro e
        rw [if_pos e] at z
        omega
      rw [if_neg h0] at z
      obtain ⟨h1, h2⟩ := rowF_ok (not_over_down o) z
      refine ⟨?_, h2⟩
      show (decide (0 < h) && okF c (h - 1) (rowF c l (h - 1) r)) = true
      rw [h1, decide_eq_true (by omega)]
      rfl
    · rw [if_neg z]
      have h3 : r - WZ c l ((h : Int) - 1) < W c l (h + 1) := by omega
      have o2 : over c (h + 1) = false := by
        cases e : over c (h + 1) with
        | false => rfl
        | true => rw [W_over e] at h3; omega
      obtain ⟨h1, h2⟩ := rowF_ok o2 h3
      refine ⟨?_, ?_⟩
      · show (!over c (h + 1) && okF c (h + 1) (rowF c l (h + 1) (r - WZ c l ((h : Int) - 1)))) = true
        rw [o2, h1]
        rfl
      · show WZ c (rowF c l (h + 1) _).length ((h : Int) - 1) + rankF c (h + 1) _ = r
        rw [rowF_len, h2]
        omega
/-- the order of texts: d ahead of u -/
def wlt : List Bool → List Bool → Bool
  | [], [] => false
  | [], _ :: _ => true
  | _ :: _, [] => false
  | a :: x, b :: y => (!a && b) || (a == b && wlt x y)
theorem rank_mono {c : Option Nat} : ∀ {v w : List Bool} {h : Nat}, v.length = w.length → over c h = false → okF c h v = true → okF c h w = true → (wlt v w = true ↔ rankF c h v < rankF c h w)
  | [], [], h, _, _, _, _ => by simp [wlt, rankF]
  | [], _ :: _, _, hl, _, _, _ => by simp at hl
  | _ :: _, [], _, hl, _, _, _ => by simp at hl
  | a :: v, b :: w, h, hl, o, hv, hw => by
    have hl2 : v.length = w.length := by simpa using hl
    cases a <;> cases b
    · have hv2 : (decide (0 < h) && okF c (h - 1) v) = true := hv
      have hw2 : (decide (0 < h) && okF c (h - 1) w) = true := hw
      rw [Bool.and_eq_true] at hv2 hw2
      have ih := rank_mono hl2 (not_over_down o) hv2.2 hw2.2
      simpa [wlt, rankF] using ih
    · have hv2 : (decide (0 < h) && okF c (h - 1) v) = true := hv
      rw [Bool.and_eq_true, decide_eq_true_eq] at hv2
      have := rankF_lt (not_over_down o) hv2.2
      have e : WZ c w.length ((h : Int) - 1) = W c v.length (h - 1) := by rw [WZ_down, if_neg (by omega), hl2]
      simp only [wlt, rankF, e]
      simp
      omega
    · have hw2 : (decide (0 < h) && okF c (h - 1) w) = true := hw
      rw [Bool.and_eq_true, decide_eq_true_eq] at hw2
      have := rankF_lt (not_over_down o) hw2.2
      have e : WZ c v.length ((h : Int) - 1) = W c w.length (h - 1) := by rw [WZ_down, if_neg (by omega), hl2]
      simp only [wlt, rankF, e]
      simp
      omega
    · have hv2 : (!over c (h + 1) && okF c (h + 1) v) = true := hv
      have hw2 : (!over c (h + 1) && okF c (h + 1) w) = true := hw
      rw [Bool.and_eq_true, Bool.not_eq_true'] at hv2 hw2
      have ih := rank_mono hl2 hv2.1 hv2.2 hw2.2
      simp only [wlt, rankF, hl2]
      simp
      simpa using ih
theorem rank_inj {c : Option Nat} {v w : List Bool} {h : Nat} (hl : v.length = w.length) (o : over c h = false) (hv : okF c h v = true) (hw : okF c h w = true) (e : rankF c h v = rankF c h w) : v = w := by
  have h1 := row_rank o hv
  have h2 := row_rank o hw
  rw [← h1, ← h2, hl, e]
/-! hill rows are the rows that lead from the ground to the ground -/
theorem okF_iff {c : Option Nat} : ∀ {w : List Bool} {h : Nat}, over c h = false → (okF c h w = true ↔ (h : Int) + hgt w = 0 ∧ (∀ k, k ≤ w.length → 0 ≤ (h : Int) + hgt (w.take k)) ∧ ∀ m, c = some m → ∀ k, k ≤ w.length → (h : Int) + hgt (w.take k) ≤ (m : Int))
  | [], h, o => by
    show decide (h = 0) = true ↔ _
    rw [decide_eq_true_eq]
    constructor
    · rintro rfl
      refine ⟨rfl, fun k _ => by simp [hgt], fun m e k _ => ?_⟩
      simp [hgt]
    · rintro ⟨h1, _⟩
      simp [hgt] at h1
      omega
  | true :: w, h, o => by
    show (!over c (h + 1) && okF c (h + 1) w) = true ↔ _
    rw [Bool.and_eq_true, Bool.not_eq_true']
    constructor
    · rintro ⟨h1, h2⟩
      obtain ⟨a, b, d⟩ := (okF_iff h1).mp h2
      refine ⟨by show (h : Int) + (1 + hgt w) = 0; omega, fun k hk => ?_, fun m e k hk => ?_⟩
      · cases k with
        | zero => simp [hgt]
        | succ k =>
          have := b k (by simpa using hk)
          show 0 ≤ (h : Int) + (1 + hgt (w.take k))
          omega
      · cases k with
        | zero =>
          subst e
          simp [over] at o
          simp [hgt]
          omega
        | succ k =>
          have := d m e k (by simpa using hk)
          show (h : Int) + (1 + hgt (w.take k)) ≤ _
          omega
    · rintro ⟨a, b, d⟩
      have h1 : over c (h + 1) = false := by
        cases c with
        | none => rfl
        | some m =>
          have := d m rfl 1 (by simp)
          simp [hgt, st] at this
          simp [over]
          omega
      refine ⟨h1, (okF_iff h1).mpr ⟨?_, fun k hk => ?_, fun m e k hk => ?_⟩⟩
      · have a2 : (h : Int) + (1 + hgt w) = 0 := a
        omega
      · have b2 : 0 ≤ (h : Int) + (1 + hgt (w.take k)) := b (k + 1) (by simpa using hk)
        omega
      · have d2 : (h : Int) + (1 + hgt (w.take k)) ≤ (m : Int) := d m e (k + 1) (by simpa using hk)
        omega
  | false :: w, h, o => by
    show (decide (0 < h) && okF c (h - 1) w) = true ↔ _
    rw [Bool.and_eq_true, decide_eq_true_eq]
    constructor
    · rintro ⟨h1, h2⟩
      obtain ⟨a, b, d⟩ := (okF_iff (not_over_down o)).mp h2
      refine ⟨by show (h : Int) + (-1 + hgt w) = 0; omega, fun k hk => ?_, fun m e k hk => ?_⟩
      · cases k with
        | zero => simp [hgt]
        | succ k =>
          have := b k (by simpa using hk)
          show 0 ≤ (h : Int) + (-1 + hgt (w.take k))
          omega
      · cases k with
        | zero =>
          subst e
          simp [over] at o
          simp [hgt]
          omega
        | succ k =>
          have := d m e k (by simpa using hk)
          show (h : Int) + (-1 + hgt (w.take k)) ≤ _
          omega
    · rintro ⟨a, b, d⟩
      have h1 : 0 < h := by
        have b1 : 0 ≤ (h : Int) + (-1 + hgt (w.take 0)) := b 1 (by simp)
        simp [hgt] at b1
        omega
      refine ⟨h1, (okF_iff (not_over_down o)).mpr ⟨?_, fun k hk => ?_, fun m e k hk => ?_⟩⟩
      · have a2 : (h : Int) + (-1 + hgt w) = 0 := a
        omega
      · have b2 : 0 ≤ (h : Int) + (-1 + hgt (w.take k)) := b (k + 1) (by simpa using hk)
        omega
      · have d2 : (h : Int) + (-1 + hgt (w.take k)) ≤ (m : Int) := d m e (k + 1) (by simpa using hk)
        omega
theorem over_zero (c : Option Nat) : over c 0 = false := by cases c with
  | none => rfl
  | some m => simp [over]
theorem hill_ok (c : Option Nat) (w : List Bool) : hillB c w = okF c 0 w := by
  have h1 := hillB_iff (c := c) (w := w)
  have h2 := okF_iff (c := c) (w := w) (h := 0) (over_zero c)
  simp only [Int.ofNat_zero, Int.zero_add, Int.natCast_zero] at h2
  cases e1 : hillB c w <;> cases e2 : okF c 0 w
  · rfl
  · exact absurd (h1.mpr (h2.mp e2)) (by rw [e1]; decide)
  · exact absurd (h2.mpr (h1.mp e1)) (by rw [e2]; decide)
  · rfl
/-- a row that comes down to the ground has an even number of signs -/
theorem hgt_even : ∀ w : List Bool, (hgt w + (w.length : Int)) % 2 = 0
  | [] => rfl
  | b :: w => by
    have ih := hgt_even w
    show (st b + hgt w + ((w.length + 1 : Nat) : Int)) % 2 = 0
    cases b <;> simp [st] <;> omega
theorem hill_even {c : Option Nat} {w : List Bool} (h : hillB c w = true) : 2 * (w.length / 2) = w.length := by
  have h1 := (hillB_iff.mp h).1
  have h2 := hgt_even w
  omega
/-! all rows by growing beginnings are the rows by rank -/
def extF (c : Option Nat) : Nat → List (List Bool × Nat) → List (List Bool × Nat)
  | 0, ps => ps
  | l + 1, ps => extF c l (grow c ps)
theorem extF_app (c : Option Nat) : ∀ l (a b : List (List Bool × Nat)), extF c l (a ++ b) = extF c l a ++ extF c l b
  | 0, _, _ => rfl
  | l + 1, a, b => by
    show extF c l (grow c (a ++ b)) = _
    have : grow c (a ++ b) = grow c a ++ grow c b := by unfold grow; rw [List.flatMap_append]
    rw [this, extF_app c l]
    rfl
theorem grown_ext (c : Option Nat) : ∀ k l, extF c l (grown c k) = grown c (k + l)
  | k, 0 => rfl
  | k, l + 1 => by
    show extF c l (grown c (k + 1)) = _
    rw [grown_ext c (k + 1) l]
    congr 1
    omega
def endsOf (ps : List (List Bool × Nat)) : List (List Bool) := (ps.filter fun p => decide (p.2 = 0)).map (·.1)
theorem endsOf_app (a b : List (List Bool × Nat)) : endsOf (a ++ b) = endsOf a ++ endsOf b := by unfold endsOf; rw [List.filter_append, List.map_append]
theorem ext_rows {c : Option Nat} : ∀ (l h : Nat) (w : List Bool), over c h = false → endsOf (extF c l [(w, h)]) = (List.range (W c l h)).map fun r => w ++ rowF c l h r
  | 0, h, w, o => by
    by_cases z : h = 0
    · subst z
      simp [extF, endsOf, W, rowF, List.range_succ]
    · simp [extF, endsOf, W, z]
  | l + 1, h, w, o => by
    have e1 : extF c (l + 1) [(w, h)] = extF c l (growOne c (w, h)) := by
      show extF c l (grow c [(w, h)]) = _
      have : grow c [(w, h)] = growOne c (w, h) := by simp [grow]
      rw [this]
    have hd : endsOf (extF c l (if 0 < h then [(w ++ [false], h - 1)] else [])) = (List.range (WZ c l ((h : Int) - 1))).map fun r => w ++ rowF c (l + 1) h r := by
      by_cases z : h = 0
      · subst z
        have : ∀ l, extF c l [] = [] := by
          intro l
          induction l with
          | zero => rfl
          | succ l ih => exact ih
        rw [if_neg (by omega), this, WZ_down, if_pos rfl]
        rfl
      · rw [if_pos (by omega), ext_rows l (h - 1) _ (not_over_down o)]
        have e : WZ c l ((h : Int) - 1) = W c l (h - 1) := by rw [WZ_down, if_neg z]
        rw [e]
        refine List.map_congr_left fun r hr => ?_
        have hr2 := List.mem_range.mp hr
        conv => rhs; unfold rowF
        rw [e, if_pos hr2]
        simp
    have hu : endsOf (extF c l (if over c (h + 1) = true then [] else [(w ++ [true], h + 1)])) = (List.range (W c l (h + 1))).map fun r => w ++ rowF c (l + 1) h (WZ c l ((h : Int) - 1) + r) := by
      by_cases z : over c (h + 1) = true
      · have : ∀ l, extF c l [] = [] := by
          intro l
          induction l with
          | zero => rfl
          | succ l ih => exact ih
        rw [if_pos z, this, W_over z]
        rfl
      · rw [if_neg z, ext_rows l (h + 1) _ (by simpa using z)]
        refine List.map_congr_left fun r hr => ?_
        conv => rhs; unfold rowF
        rw [if_neg (by omega), Nat.add_sub_cancel_left]
        simp
    rw [e1]
    unfold growOne
    rw [extF_app, endsOf_app, hd, hu, W_step2 o, List.range_add, List.map_append, List.map_map]
    rfl
theorem allRows_eq (c : Option Nat) (n : Nat) : allRows c n = (List.range (W c (2 * n) 0)).map fun r => rowF c (2 * n) 0 r := by
  have h := ext_rows (c := c) (2 * n) 0 [] (over_zero c)
  have e : extF c (2 * n) [([], 0)] = grown c (2 * n) := by
    have := grown_ext c 0 (2 * n)
    rw [Nat.zero_add] at this
    exact this
  rw [e] at h
  unfold endsOf at h
  unfold allRows
  rw [h]
  rfl
end Hl
/-! Plain mathematics: rows joined, lifted, from their end. -/
namespace Hl
def flipW (w : List Bool) : List Bool := w.map (!·)
theorem st_not (b : Bool) : st (!b) = - st b := by cases b <;> rfl
theorem hgt_mir : ∀ w : List Bool, hgt (w.reverse.map (!·)) = - hgt w
  | [] => rfl
  | b :: w => by
    rw [List.reverse_cons, List.map_append, hgt_app, hgt_mir w]
    show - hgt w + hgt [!b] = - (st b + hgt w)
    rw [hgt_one, st_not]
    omega
theorem mir_take (w : List Bool) {k : Nat} (h : k ≤ w.length) : (w.reverse.map (!·)).take k = ((w.drop (w.length - k)).reverse.map (!·)) := by
  rw [← List.map_take, List.take_reverse]
theorem hgt_drop (w : List Bool) (k : Nat) : hgt (w.drop k) = hgt w - hgt (w.take k) := by
  have := hgt_app (w.take k) (w.drop k)
  rw [List.take_append_drop] at this
  omega
theorem mir_hgt {w : List Bool} (h0 : hgt w = 0) {k : Nat} (h : k ≤ w.length) : hgt ((w.reverse.map (!·)).take k) = hgt (w.take (w.length - k)) := by
  rw [mir_take w h, hgt_mir, hgt_drop, h0]
  omega
theorem mir_mir (w : List Bool) : (w.reverse.map (!·)).reverse.map (!·) = w := by
  rw [← List.map_reverse, List.reverse_reverse, List.map_map]
  conv => rhs; rw [← List.map_id w]
  exact List.map_congr_left fun b _ => by simp
theorem mir_hill {w : List Bool} (h : hillB none w = true) : hillB none (w.reverse.map (!·)) = true := by
  obtain ⟨h0, h1, _⟩ := hillB_iff.mp h
  refine hillB_iff.mpr ⟨by rw [hgt_mir, h0]; rfl, fun k hk => ?_, fun _ z => nomatch z⟩
  have hl : (w.reverse.map (!·)).length = w.length := by simp
  rw [hl] at hk
  rw [mir_hgt h0 hk]
  exact h1 _ (by omega)
theorem mir_htl {w : List Bool} (h : hillB none w = true) : htl (w.reverse.map (!·)) = (htl w).reverse := by
  have h0 := (hillB_iff.mp h).1
  have hl : (w.reverse.map (!·)).length = w.length := by simp
  apply List.ext_getElem?
  intro k
  by_cases hk : k ≤ w.length
  · rw [htl_get (by rw [hl]; exact hk), List.getElem?_reverse (by rw [htl_len]; omega), htl_len, htl_get (by omega), mir_hgt h0 hk]
    congr 3
  · rw [List.getElem?_eq_none (by rw [htl_len, hl]; omega), List.getElem?_eq_none (by rw [List.length_reverse, htl_len]; omega)]
theorem ok_app {c : Option Nat} : ∀ {u : List Bool} {h : Nat} (v : List Bool), okF c h u = true → okF c h (u ++ v) = okF c 0 v
  | [], h, v, ok => by
    have : h = 0 := of_decide_eq_true ok
    subst this
    rfl
  | true :: u, h, v, ok => by
    have ok2 : (!over c (h + 1) && okF c (h + 1) u) = true := ok
    rw [Bool.and_eq_true] at ok2
    show (!over c (h + 1) && okF c (h + 1) (u ++ v)) = _
    rw [ok2.1, ok_app v ok2.2]
    rfl
  | false :: u, h, v, ok => by
    have ok2 : (decide (0 < h) && okF c (h - 1) u) = true := ok
    rw [Bool.and_eq_true] at ok2
    show (decide (0 < h) && okF c (h - 1) (u ++ v)) = _
    rw [ok2.1, ok_app v ok2.2]
    rfl
theorem hill_app {c : Option Nat} {u v : List Bool} (h1 : hillB c u = true) (h2 : hillB c v = true) : hillB c (u ++ v) = true := by
  rw [hill_ok] at *
  rw [ok_app v h1]
  exact h2
theorem hill_nil (c : Option Nat) : hillB c [] = true := by rw [hill_ok]; rfl
theorem hill_flat {c : Option Nat} : ∀ {ws : List (List Bool)}, (∀ w ∈ ws, hillB c w = true) → hillB c ws.flatten = true
  | [], _ => hill_nil c
  | w :: ws, h => by
    rw [List.flatten_cons]
    exact hill_app (h w List.mem_cons_self) (hill_flat fun v hv => h v (List.mem_cons_of_mem _ hv))
theorem hill_none {c : Option Nat} {w : List Bool} (h : hillB c w = true) : hillB none w = true := by
  obtain ⟨a, b, _⟩ := hillB_iff.mp h
  exact hillB_iff.mpr ⟨a, b, fun _ z => nomatch z⟩
theorem mir_flat : ∀ ws : List (List Bool), ws.flatten.reverse.map (!·) = (ws.reverse.map fun w => w.reverse.map (!·)).flatten
  | [] => rfl
  | w :: ws => by
    rw [List.flatten_cons, List.reverse_append, List.map_append, mir_flat ws, List.reverse_cons, List.map_append, List.flatten_append]
    simp
theorem hgt_ups (n : Nat) : hgt (List.replicate n true) = n := by
  induction n with
  | zero => rfl
  | succ n ih =>
    rw [List.replicate_succ]
    show st true + hgt (List.replicate n true) = _
    rw [ih]
    show (1 : Int) + n = _
    omega
theorem lift_htl (n : Nat) (w : List Bool) : ((htl ((List.replicate n true ++ w) ++ List.replicate n false)).drop n).take (w.length + 1) = (htl w).map fun y => y + (n : Int) := by
  apply List.ext_getElem?
  intro k
  rw [List.getElem?_take, List.getElem?_map]
  by_cases hk : k ≤ w.length
  · rw [if_pos (by omega), List.getElem?_drop, htl_get (by simp; omega), htl_get hk, List.append_assoc, List.take_append]
    have e1 : (List.replicate n true).take (n + k) = List.replicate n true := List.take_of_length_le (by simp)
    rw [e1, hgt_app, hgt_ups, List.length_replicate, Nat.add_sub_cancel_left, List.take_append_of_le_length hk]
    show some ((n : Int) + hgt (w.take k)) = some (hgt (w.take k) + (n : Int))
    rw [Int.add_comm]
  · rw [if_neg (by omega), List.getElem?_eq_none (by rw [htl_len]; omega)]
    rfl
end Hl
/-! Plain mathematics: pairs of ups and downs. -/
namespace Hl
/-- i is an up, j the down that comes back to where i began -/
def Mt (w : List Bool) (i j : Nat) : Prop := i < j ∧ j < w.length ∧ hgt (w.take (j + 1)) = hgt (w.take i) ∧ ∀ k, i < k → k ≤ j → hgt (w.take i) < hgt (w.take k)
theorem hgt_step {w : List Bool} {i : Nat} {b : Bool} (h : w[i]? = some b) : hgt (w.take (i + 1)) = hgt (w.take i) + st b := by
  rw [take_snoc h, hgt_app, hgt_one]
theorem Mt.up {w : List Bool} {i j : Nat} (h : Mt w i j) : w[i]? = some true := by
  obtain ⟨h1, h2, h3, h4⟩ := h
  have hi : i < w.length := by omega
  have e : w[i]? = some w[i] := List.getElem?_eq_getElem hi
  have := h4 (i + 1) (by omega) (by omega)
  rw [hgt_step e] at this
  rw [e]
  cases hw : w[i] with
  | true => rfl
  | false =>
    rw [hw] at this
    simp [st] at this
    omega
theorem Mt.down {w : List Bool} {i j : Nat} (h : Mt w i j) : w[j]? = some false := by
  obtain ⟨h1, h2, h3, h4⟩ := h
  have e : w[j]? = some w[j] := List.getElem?_eq_getElem h2
  have := h4 j h1 (Nat.le_refl _)
  rw [hgt_step e] at h3
  rw [e]
  cases hw : w[j] with
  | false => rfl
  | true =>
    rw [hw] at h3
    simp [st] at h3
    omega
/-- the other one is one only -/
theorem Mt.right {w : List Bool} {i j k : Nat} (h : Mt w i j) (g : Mt w i k) : j = k := by
  rcases Nat.lt_trichotomy j k with z | z | z
  · have := g.2.2.2 (j + 1) (by have := h.1; omega) (by omega)
    rw [h.2.2.1] at this
    omega
  · exact z
  · have := h.2.2.2 (k + 1) (by have := g.1; omega) (by omega)
    rw [g.2.2.1] at this
    omega
theorem Mt.left {w : List Bool} {i j k : Nat} (h : Mt w i k) (g : Mt w j k) : i = j := by
  have e : hgt (w.take i) = hgt (w.take j) := h.2.2.1.symm.trans g.2.2.1
  rcases Nat.lt_trichotomy i j with z | z | z
  · have := h.2.2.2 j z (by have := g.1; omega)
    omega
  · exact z
  · have := g.2.2.2 i z (by have := h.1; omega)
    omega
/-- pairs, by a stack of open ups -/
def prStep (s : List Int × List Nat) (i : Nat) (b : Bool) : List Int × List Nat := match b with
  | true => (s.1, s.2 ++ [i])
  | false => ((s.1.set (s.2.getLastD 0) (i : Int)).set i ((s.2.getLastD 0 : Nat) : Int), s.2.dropLast)
def prRun (w : List Bool) : Nat → List Int × List Nat
  | 0 => (List.replicate w.length 0, [])
  | t + 1 => prStep (prRun w t) t (w.getD t false)
def pairsF (w : List Bool) : List Int := (prRun w w.length).1
structure PrOk (w : List Bool) (t : Nat) (s : List Int × List Nat) : Prop where
  len : s.1.length = w.length
  top : (s.2.length : Int) = hgt (w.take t)
  opn : ∀ d p : Nat, s.2[d]? = some p → p < t ∧ hgt (w.take p) = (d : Int) ∧ ∀ k, p < k → k ≤ t → (d : Int) < hgt (w.take k)
  fnd : ∀ i j : Nat, Mt w i j → j < t → s.1[i]? = some (j : Int) ∧ s.1[j]? = some (i : Int)
theorem pr_zero (w : List Bool) : PrOk w 0 (prRun w 0) := by
  refine ⟨by simp [prRun], rfl, fun d p h => ?_, fun i j _ h => absurd h (Nat.not_lt_zero _)⟩
  have h2 : ([] : List Nat)[d]? = some p := h
  simp at h2
theorem lastD {l : List Nat} {p : Nat} (h : l[l.length - 1]? = some p) : l.getLastD 0 = p := by
  rw [List.getLastD_eq_getLast?, List.getLast?_eq_getElem?, h]
  rfl
/-- the last open up and what comes down -/
theorem pr_pop {w : List Bool} (hw : ∀ k, k ≤ w.length → 0 ≤ hgt (w.take k)) {t : Nat} {s : List Int × List Nat} (h : PrOk w t s) (hb : w[t]? = some false) : ∃ p, s.2[s.2.length - 1]? = some p ∧ 0 < s.2.length ∧ s.2.getLastD 0 = p ∧ Mt w p t := by
  have ht : t < w.length := (List.getElem?_eq_some_iff.mp hb).1
  have h1 := hw (t + 1) (by omega)
  have h2 := hgt_step hb
  rw [← h.top] at h2
  simp [st] at h2
  have hpos : 0 < s.2.length := by omega
  have hlt : s.2.length - 1 < s.2.length := by omega
  have e : s.2[s.2.length - 1]? = some s.2[s.2.length - 1] := List.getElem?_eq_getElem hlt
  obtain ⟨a1, a2, a3⟩ := h.opn _ _ e
  refine ⟨_, e, hpos, lastD e, a1, ht, ?_, fun k h3 h4 => ?_⟩
  · rw [h2, a2]
    omega
  · rw [a2]
    exact a3 k h3 h4
theorem pr_next {w : List Bool} (hw : ∀ k, k ≤ w.length → 0 ≤ hgt (w.take k)) {t : Nat} {s : List Int × List Nat} {b : Bool} (h : PrOk w t s) (hb : w[t]? = some b) : PrOk w (t + 1) (prStep s t b) := by
  have ht : t < w.length := (List.getElem?_eq_some_iff.mp hb).1
  have h2 := hgt_step hb
  cases b with
  | true =>
    have h2' : hgt (w.take (t + 1)) = hgt (w.take t) + 1 := h2
    refine ⟨h.len, ?_, fun d p hd => ?_, fun i j hm hj => ?_⟩
    · show ((s.2 ++ [t]).length : Int) = _
      rw [List.length_append, h2', ← h.top]
      rfl
    · have hd2 : (s.2 ++ [t])[d]? = some p := hd
      have hlen : (s.2 ++ [t]).length = s.2.length + 1 := by simp
      by_cases hdl : d < s.2.length
      · rw [List.getElem?_append_left hdl] at hd2
        obtain ⟨a1, a2, a3⟩ := h.opn d p hd2
        refine ⟨by omega, a2, fun k h3 h4 => ?_⟩
        by_cases hk : k = t + 1
        · rw [hk, h2', ← h.top]
          omega
        · exact a3 k h3 (by omega)
      · have hde : d = s.2.length := by
          have := (List.getElem?_eq_some_iff.mp hd2).1
          omega
        subst hde
        rw [List.getElem?_append_right (Nat.le_refl _)] at hd2
        simp at hd2
        subst hd2
        refine ⟨by omega, h.top.symm, fun k h3 h4 => ?_⟩
        have : k = t + 1 := by omega
        rw [this, h2', ← h.top]
        omega
    · by_cases hjt : j = t
      · subst hjt
        have := hm.down
        rw [hb] at this
        cases this
      · exact h.fnd i j hm (by omega)
  | false =>
    have h2' : hgt (w.take (t + 1)) = hgt (w.take t) - 1 := by rw [h2]; rfl
    obtain ⟨p, e, hpos, hlast, hm⟩ := pr_pop hw h hb
    obtain ⟨a1, a2, a3⟩ := h.opn _ _ e
    have hp : p < w.length := by omega
    have hs : prStep s t false = ((s.1.set p (t : Int)).set t (p : Int), s.2.dropLast) := by
      show ((s.1.set (s.2.getLastD 0) (t : Int)).set t ((s.2.getLastD 0 : Nat) : Int), s.2.dropLast) = _
      rw [hlast]
    rw [hs]
    refine ⟨by simp [h.len], ?_, fun d q hd => ?_, fun i j hm2 hj => ?_⟩
    · show ((s.2.dropLast).length : Int) = _
      rw [List.length_dropLast, h2', ← h.top]
      omega
    · have hd2 : s.2.dropLast[d]? = some q := hd
      have hdl : d < s.2.length - 1 := by
        have := (List.getElem?_eq_some_iff.mp hd2).1
        rw [List.length_dropLast] at this
        exact this
      rw [List.getElem?_dropLast, if_pos hdl] at hd2
      obtain ⟨b1, b2, b3⟩ := h.opn d q hd2
      refine ⟨by omega, b2, fun k h3 h4 => ?_⟩
      by_cases hk : k = t + 1
      · rw [hk, h2', ← h.top]
        omega
      · exact b3 k h3 (by omega)
    · show ((s.1.set p (t : Int)).set t (p : Int))[i]? = some (j : Int) ∧ ((s.1.set p (t : Int)).set t (p : Int))[j]? = some (i : Int)
      have hl : s.1.length = w.length := h.len
      by_cases hjt : j = t
      · subst hjt
        have hip : i = p := hm2.left hm
        subst hip
        rw [List.getElem?_set_ne (by omega), List.getElem?_set_self (by omega), List.getElem?_set_self (by simp; omega)]
        exact ⟨rfl, rfl⟩
      · obtain ⟨f1, f2⟩ := h.fnd i j hm2 (by omega)
        have hi1 := hm2.1
        have hjp : j ≠ p := fun z => by
          have u1 := hm2.down
          have u2 := hm.up
          rw [z, u2] at u1
          cases u1
        have hip : i ≠ p := fun z => by
          subst z
          exact hjt (hm2.right hm)
        rw [List.getElem?_set_ne (by omega), List.getElem?_set_ne (Ne.symm hip), List.getElem?_set_ne (by omega), List.getElem?_set_ne (Ne.symm hjp)]
        exact ⟨f1, f2⟩
theorem pr_ok {w : List Bool} (hw : ∀ k, k ≤ w.length → 0 ≤ hgt (w.take k)) : ∀ t, t ≤ w.length → PrOk w t (prRun w t)
  | 0, _ => pr_zero w
  | t + 1, ht => by
    have ih := pr_ok hw t (by omega)
    have hb : w[t]? = some (w.getD t false) := by rw [List.getD, List.getElem?_eq_getElem (by omega)]; rfl
    exact pr_next hw ih hb
theorem pairs_len {w : List Bool} (h : hillB none w = true) : (pairsF w).length = w.length := (pr_ok (hillB_iff.mp h).2.1 _ (Nat.le_refl _)).len
theorem pairs_at {w : List Bool} (h : hillB none w = true) {i j : Nat} (hm : Mt w i j) : (pairsF w)[i]? = some (j : Int) ∧ (pairsF w)[j]? = some (i : Int) := (pr_ok (hillB_iff.mp h).2.1 _ (Nat.le_refl _)).fnd i j hm hm.2.1
/-- every place has another one -/
theorem mt_down {w : List Bool} (h : hillB none w = true) {j : Nat} (hj : w[j]? = some false) : ∃ i, Mt w i j := by
  have hj2 := (List.getElem?_eq_some_iff.mp hj).1
  obtain ⟨p, _, _, _, hm⟩ := pr_pop (hillB_iff.mp h).2.1 (pr_ok (hillB_iff.mp h).2.1 j (by omega)) hj
  exact ⟨p, hm⟩
/-- the first place from p on where the height is no more -/
theorem first_back {w : List Bool} {p : Nat} (hp : w[p]? = some true) : ∀ n m, p < m → m ≤ n → n ≤ w.length → hgt (w.take m) ≤ hgt (w.take p) → ∃ j, Mt w p j
  | 0, m, h1, h2, _, _ => by omega
  | n + 1, m, h1, h2, hl, hh => by
    by_cases hlow : ∃ m', p < m' ∧ m' ≤ n ∧ hgt (w.take m') ≤ hgt (w.take p)
    · obtain ⟨m', m1, m2, m3⟩ := hlow
      exact first_back hp n m' m1 m2 (by omega) m3
    · have hmn : m = n + 1 := by
        by_cases z : m ≤ n
        · exact absurd ⟨m, h1, z, hh⟩ hlow
        · omega
      subst hmn
      have hup : ∀ k, p < k → k ≤ n → hgt (w.take p) < hgt (w.take k) := fun k k1 k2 => by
        have : ¬ hgt (w.take k) ≤ hgt (w.take p) := fun z => hlow ⟨k, k1, k2, z⟩
        omega
      by_cases hnp : n = p
      · subst hnp
        rw [hgt_step hp] at hh
        have : st true = 1 := rfl
        omega
      · have e : w[n]? = some w[n] := List.getElem?_eq_getElem (by omega)
        have h3 := hgt_step e
        have h4 : st w[n] = 1 ∨ st w[n] = -1 := by cases w[n] <;> simp [st]
        have h5 := hup n (by omega) (Nat.le_refl _)
        exact ⟨n, by omega, by omega, by omega, hup⟩
theorem mt_up {w : List Bool} (h : hillB none w = true) {i : Nat} (hi : w[i]? = some true) : ∃ j, Mt w i j := by
  obtain ⟨h0, h1, _⟩ := hillB_iff.mp h
  have hl := (List.getElem?_eq_some_iff.mp hi).1
  refine first_back hi w.length w.length hl (Nat.le_refl _) (Nat.le_refl _) ?_
  rw [List.take_length, h0]
  exact h1 i (by omega)
end Hl
/-! rows.py: heights, is_hill, need_hill, peak. -/
namespace Hl
open PySem PySem.Spec PyProof.Rows L2 Evl
abbrev s_heights : Stmt := topS 11
abbrev N_heights : List Str := ["row", "found", "sign"]
abbrev ps_heights : List Str := ["row"]
theorem sc_heights : FnScope N_heights ps_heights (defScope s_heights) := ⟨rfl, rfl, rfl, by decide +kernel, rfl, by decide +kernel, by decide +kernel⟩

abbrev s_is_hill : Stmt := topS 12
abbrev N_is_hill : List Str := ["row", "ceiling", "high"]
abbrev ps_is_hill : List Str := ["row", "ceiling"]
theorem sc_is_hill : FnScope N_is_hill ps_is_hill (defScope s_is_hill) := ⟨rfl, rfl, rfl, by decide +kernel, rfl, by decide +kernel, by decide +kernel⟩

def spHeights (C : Addr) : Sp := fun vs H Q E => ∃ z : Str, vs = [.str z] ∧ z.length ≤ 90000 ∧ (∀ w, unrow z = some w → RetL ((htl w).map V.int) H Q) ∧ (unrow z = none → rx C H E)
def hillS (c : Option Nat) (z : Str) : Bool := match unrow z with
  | none => false
  | some w => hillB c w
theorem hillS_row (c : Option Nat) (w : List Bool) : hillS c (rowS w) = hillB c w := by unfold hillS; rw [unrow_row]
theorem hillS_iff {c : Option Nat} {z : Str} : hillS c z = true ↔ ∃ w, z = rowS w ∧ hillB c w = true := by
  unfold hillS
  constructor
  · intro h
    cases e : unrow z with
    | none => rw [e] at h; cases h
    | some w => rw [e] at h; exact ⟨w, unrow_some e, h⟩
  · rintro ⟨w, rfl, h⟩
    rw [unrow_row]
    exact h
def spIsHill : Sp := fun vs H Q _ => ∃ (z : Str) (c : Option Nat), vs = [.str z, ceilV c] ∧ z.length ≤ 90000 ∧ RetV (.bl (hillS c z)) H Q
theorem row_sign {w : List Bool} {i c : Nat} (h : (rowS w).cps[i]? = some c) : ∃ b, w[i]? = some b ∧ c = sg b := by
  have h2 : (w.map sg)[i]? = some c := by
    rw [← h]
    unfold rowS
    simp
  rw [List.getElem?_map] at h2
  cases e : w[i]? with
  | none => rw [e] at h2; cases h2
  | some b => rw [e] at h2; exact ⟨b, rfl, (Option.some.inj h2).symm⟩
theorem row_size (w : List Bool) : (rowS w).cps.size = w.length := by unfold rowS; simp
theorem sgS_u (b : Bool) : decide (V.str ⟨#[sg b]⟩ = V.str ("u" : Str)) = b := by
  cases b
  · exact decide_eq_false (by rw [lit_u]; intro h; injection h with h; injection h with h; cases h)
  · exact decide_eq_true (by rw [lit_u]; rfl)
section
variable {P : Program} {w : World} {K : PySem.W.Frag} {mg : Str → Option Value} {base : Heap} {f : Addr} {fd : FuncData}
theorem et_strip {σ : L2.St} {H : Hp} {ta : TE} {z : Str} (hz : z.length ≤ 100000) (h1 : Ev ta σ H (.str z)) :
    EvT (tTest (tOp rNe (tBM K "str" (fun x xs H Q => ∃ a b, x = .str a ∧ xs = [.str b] ∧ a.length ≤ sizeLine ∧ Q (.str (Txt.stripChars a b)) H) ta (tCons (tC (.str "ud")) tNil)) (tC (.str "")))) σ H (!(unrow z).isSome) :=
  et_is (et_test (ev_op (ev_strip hz h1 ev_c) ev_c (rv_ne rfl))) (by
    rw [← strip_row z]
    congr 1
    by_cases h : Txt.stripChars z "ud" = ("" : Str)
    · rw [decide_eq_true h, decide_eq_true (congrArg V.str h)]
    · rw [decide_eq_false h, decide_eq_false (fun q => h (V.str.inj q))])
theorem ok_heights {C : Addr} (F : FnP K "heights" s_heights [] f fd) (B : Blt mg) (x_NoRow : Exc K mg "NoRow" C) : FnOk P w K mg base (L2.CX P w) 1 f fd ps_heights (spHeights C) := by
  refine F.ok sc_heights (fun vs H Q E h => ?_) (fun cdv A outer s H vs Q E hr h => ?_)
  · obtain ⟨z, rfl, _⟩ := h
    rfl
  · obtain ⟨z, rfl, hz, q, qe⟩ := h
    refine ⟨_, (pss_cons (ps_if (pt_cmpR op_ne (pe_bm PySem.F.plainAttrs_str PySem.F.slot_str_strip PySem.F.type_str_strip mt_stripChars (pv 0) (pa_cons pe_str pa_nil)) pe_str (nomark _))
      (pss_one (ps_raise rfl tkOf x_NoRow.mk'))
      pss_nil)
    (pss_cons (ps_set (i := 1) sc_heights.nd rfl (by first | exact Or.inl rfl | exact Or.inr rfl) (pe_lst (pa_cons pe_int pa_nil)))
    (pss_cons (ps_for hpOf rfl (pi_str (pv 0)) (pg_name (i := 2) sc_heights.nd rfl (by first | exact Or.inl rfl | exact Or.inr rfl))
      (pss_one (ps_if (pt_cmpR op_eq (pv 2) pe_str (nomark _))
        (pss_one (ps_expr (pe_bm PySem.F.plainAttrs_list PySem.F.slot_list_append PySem.F.type_list_append mt_append (pv 1) (pa_cons (pe_op op_add (pe_ix ix_list (pv 1) (pe_un un_neg pe_int) (fun _ _ => rfl)) pe_int) pa_nil))))
        (pss_one (ps_expr (pe_bm PySem.F.plainAttrs_list PySem.F.slot_list_append PySem.F.type_list_append mt_append (pv 1) (pa_cons (pe_op op_sub (pe_ix ix_list (pv 1) (pe_un un_neg pe_int) (fun _ _ => rfl)) pe_int) pa_nil)))))))
    (pss_one (ps_ret (pv 1)))))), ?_⟩
    refine q_when (et_strip (K := K) (by omega) (ev_var rfl)) (fun hb H1 e1 => qe (by simpa using hb) H1 e1) (fun hb H1 e1 => ?_)
    obtain ⟨w, hw⟩ : ∃ w, unrow z = some w := by
      cases e : unrow z with
      | none => rw [e] at hb; cases hb
      | some w => exact ⟨w, rfl⟩
    have hzw := unrow_some hw
    subst hzw
    have hwl : w.length ≤ 90000 := by rw [rowS_len] at hz; exact hz
    refine q_asgL (xs := [.int 0]) (el_lst (ea_cons ev_c ea_nil) (by decide)) fun p H2 np e2 hp => ?_
    refine q_forStr (ev_var rfl) (fun i σ H' => ∃ s2 : Option V, σ = [some (.str (rowS w)), some (.ref p), s2] ∧ Ex H1 H' ∧ H' p = some (.lst ((htl (w.take i)).map V.int))) (fun H3 e3 => ⟨_, rfl, e2.trans e3, e3 p _ hp⟩) (fun i c σ H' hc hP => ?_) (fun σ H' hP => ?_)
    · obtain ⟨s2, rfl, e3, hp3⟩ := hP
      obtain ⟨b, hb, rfl⟩ := row_sign hc
      have hi : i < w.length := (List.getElem?_eq_some_iff.mp hb).1
      have hlast : atI ((htl (w.take i)).map V.int) (-1) = some (.int (hgt (w.take i))) := neg_one_at (i := i) (by rw [List.length_map, htl_len, List.length_take]; omega) (map_int_get (by
        have := htl_last (w.take i)
        rw [List.length_take, Nat.min_eq_left (by omega)] at this
        exact this))
      have hnext : (htl (w.take (i + 1))).map V.int = (htl (w.take i)).map V.int ++ [.int (hgt (w.take i) + st b)] := by
        rw [take_snoc hb, htl_snoc, List.map_append]
        rfl
      have hlen : ((htl (w.take i)).map V.int).length < 100000 := by
        rw [List.length_map, htl_len, List.length_take]
        omega
      refine s_if (et_is (et_test (ev_op (ev_var rfl) ev_c (rv_eq rfl))) (sgS_u b)) (fun hbt H4 e4 => ?_) (fun hbf H4 e4 => ?_)
      · refine s_app (e4 p _ hp3) (ev_var rfl) (v := .int (hgt (w.take i) + st b)) (ev_is (ev_op (ev_op (ev_var rfl) (ev_un ev_c ru_neg) (rv_ixL (sq_of (e4 p _ hp3)) hlast)) ev_c rv_I0) (by rw [hbt]; rfl)) hlen fun H5 e5 => ?_
        exact ⟨_, rfl, ((e3.trans e4).trans e5).mut np, by rw [upd_same, hnext]⟩
      · refine s_app (e4 p _ hp3) (ev_var rfl) (v := .int (hgt (w.take i) + st b)) (ev_is (ev_op (ev_op (ev_var rfl) (ev_un ev_c ru_neg) (rv_ixL (sq_of (e4 p _ hp3)) hlast)) ev_c rv_I0) (by rw [hbf]; rfl)) hlen fun H5 e5 => ?_
        exact ⟨_, rfl, ((e3.trans e4).trans e5).mut np, by rw [upd_same, hnext]⟩
    · obtain ⟨s2, rfl, e3, hp3⟩ := hP
      rw [row_size, List.take_length] at hp3
      exact s_ret (ev_var rfl) fun H6 e6 => q w hw p H6 (fresh_back e1 np) ((e1.trans e3).trans e6) (e6 p _ hp3)
theorem el_heights {σ : L2.St} {H : Hp} {ta : TE} {w : List Bool} {C : Addr} {E : XK} (hl : w.length ≤ 90000) (h1 : Ev ta σ H (.str (rowS w))) : EvL (tCall (spHeights C) [] E (tCons ta tNil)) σ H ((htl w).map V.int) :=
  el_call (ea_cons h1 ea_nil) fun H1 _ Q q E => ⟨_, rfl, by rw [rowS_len]; exact hl, fun w' e => by
    rw [unrow_row] at e
    cases e
    exact q, fun z => by
    rw [unrow_row] at z
    cases z⟩
theorem ev_minL {σ : L2.St} {H : Hp} {ta : TE} {p : Addr} {ns : List Int} {te' : Int → V} {b : V} (h1 : Ev ta σ H (.ref p)) (hS : SqL K H p (ns.map V.int)) (h0 : 0 < ns.length) : ∀ H1, Ex H H1 → ∀ Q : VK, (∀ m H2, Ex H1 H2 → m ∈ ns → (∀ y, y ∈ ns → m ≤ y) → Q (.int m) H2) → (tCB (rMin K) (tCons ta tNil)) σ H1 Q := fun H1 e Q q =>
  h1 H1 e _ fun H2 e2 => ⟨p, ns, rfl, ex_l (e.trans e2) hS, h0, fun m hm hle => q m H2 e2 hm hle⟩
theorem ev_maxL {σ : L2.St} {H : Hp} {ta : TE} {p : Addr} {ns : List Int} (h1 : Ev ta σ H (.ref p)) (hS : SqL K H p (ns.map V.int)) (h0 : 0 < ns.length) : ∀ H1, Ex H H1 → ∀ Q : VK, (∀ m H2, Ex H1 H2 → m ∈ ns → (∀ y, y ∈ ns → y ≤ m) → Q (.int m) H2) → (tCB (rMax K) (tCons ta tNil)) σ H1 Q := fun H1 e Q q =>
  h1 H1 e _ fun H2 e2 => ⟨p, ns, rfl, ex_l (e.trans e2) hS, h0, fun m hm hle => q m H2 e2 hm hle⟩
/-- min(..) compared, max(..) compared: by what every least, greatest one gives -/
theorem ev_min_op {σ : L2.St} {H : Hp} {ta tb : TE} {p : Addr} {ns : List Int} {r : R2} {y z : V} (h1 : Ev ta σ H (.ref p)) (hS : SqL K H p (ns.map V.int)) (h0 : 0 < ns.length) (h2 : Ev tb σ H y) (hr : ∀ m, m ∈ ns → (∀ y, y ∈ ns → m ≤ y) → RV r (.int m) y H z) : Ev (tOp r (tCB (rMin K) (tCons ta tNil)) tb) σ H z := fun H1 e Q q =>
  ev_minL (te' := V.int) (b := y) h1 hS h0 H1 e _ fun m H2 e2 hm hle => h2 H2 (e.trans e2) _ fun H3 e3 => hr m hm hle H3 ((e.trans e2).trans e3) Q fun H4 e4 => q H4 ((e2.trans e3).trans e4)
theorem ev_max_op {σ : L2.St} {H : Hp} {ta tb : TE} {p : Addr} {ns : List Int} {r : R2} {y z : V} (h1 : Ev ta σ H (.ref p)) (hS : SqL K H p (ns.map V.int)) (h0 : 0 < ns.length) (h2 : Ev tb σ H y) (hr : ∀ m, m ∈ ns → (∀ y, y ∈ ns → y ≤ m) → RV r (.int m) y H z) : Ev (tOp r (tCB (rMax K) (tCons ta tNil)) tb) σ H z := fun H1 e Q q =>
  ev_maxL h1 hS h0 H1 e _ fun m H2 e2 hm hle => h2 H2 (e.trans e2) _ fun H3 e3 => hr m hm hle H3 ((e.trans e2).trans e3) Q fun H4 e4 => q H4 ((e2.trans e3).trans e4)
theorem ok_is_hill {C : Addr} (F : FnP K "is_hill" s_is_hill [.non] f fd) (B : Blt mg) (f_heights : Cal P w K mg base 1 "heights" (spHeights C) []) : FnOk P w K mg base (L2.CX P w) 2 f fd ps_is_hill spIsHill := by
  refine F.ok sc_is_hill (fun vs H Q E h => ?_) (fun cdv A outer s H vs Q E hr h => ?_)
  · obtain ⟨z, c, rfl, _⟩ := h
    rfl
  · obtain ⟨z, c, rfl, hz, q⟩ := h
    refine ⟨_, (pss_cons (ps_if (pt_cmpR op_ne (pe_bm PySem.F.plainAttrs_str PySem.F.slot_str_strip PySem.F.type_str_strip mt_stripChars (pv 0) (pa_cons pe_str pa_nil)) pe_str (nomark _))
      (pss_one (ps_ret pe_bl))
      pss_nil)
    (pss_cons (ps_set (i := 2) sc_is_hill.nd rfl (by first | exact Or.inl rfl | exact Or.inr rfl) (pe_cal f_heights hr (by decide) (by rfl) hxOf (pa_cons (pv 0) pa_nil)))
    (pss_one (ps_ret (pe_and (pe_cmpR op_eq (pe_ix ix_list (pv 2) (pe_un un_neg pe_int) (fun _ _ => rfl)) pe_int (nomark _)) (pe_and (pe_cmpR op_eq (pe_callB (cr_min rfl) (by rfl) B.min (by first | rfl | decide +kernel) (pa_cons (pv 2) pa_nil)) pe_int (nomark _)) (pe_one (pe_or (pe_cmpR op_isN (pv 1) pe_non (nomark _)) (pe_one (pe_cmpR op_le (pe_callB (cr_max rfl) (by rfl) B.max (by first | rfl | decide +kernel) (pa_cons (pv 2) pa_nil)) (pv 1) (nomark _))))))))))), ?_⟩
    refine q_when (et_strip (K := K) (by omega) (ev_var rfl)) (fun hb H1 e1 => ?_) (fun hb H1 e1 => ?_)
    · refine s_ret (ev_c (v := .bl false)) fun H2 e2 => ?_
      have hn : hillS c z = false := by
        unfold hillS
        cases e : unrow z with
        | none => rfl
        | some w => rw [e] at hb; cases hb
      have := q H2 (e1.trans e2)
      rw [hn] at this
      exact this
    · obtain ⟨w, hw⟩ : ∃ w, unrow z = some w := by
        cases e : unrow z with
        | none => rw [e] at hb; cases hb
        | some w => exact ⟨w, rfl⟩
      have hzw := unrow_some hw
      subst hzw
      have hwl : w.length ≤ 90000 := by rw [rowS_len] at hz; exact hz
      refine q_asgL (el_heights hwl (ev_var rfl)) fun p H2 np e2 hp => ?_
      have hS : SqL K H2 p ((htl w).map V.int) := sq_of hp
      have h0 : 0 < (htl w).length := by rw [htl_len]; omega
      refine s_ret (v := .bl (hillB c w)) ?_ fun H3 e3 => by
        have := q H3 ((e1.trans e2).trans e3)
        rw [hillS_row] at this
        exact this
      refine ev_andV (a := decide (hgt w = 0)) (b := upB w && lowB c w) (ev_is (ev_op (ev_op (ev_var rfl) (ev_un ev_c ru_neg) (rv_ixL hS (neg_one_at (i := w.length) (by rw [List.length_map, htl_len]) (map_int_get (htl_last w))))) ev_c (rv_eq rfl)) (by congr 1; exact decide_eq_decide.mpr ⟨fun h => V.int.inj h, fun h => congrArg V.int h⟩)) (fun _ => ?_)
      refine ev_andV (a := upB w) (b := lowB c w) (ev_min_op (ev_var rfl) hS h0 ev_c fun m hm hle => ?_) (fun _ => ?_)
      · have e1 : decide (V.int m = V.int 0) = upB w := by
          rw [← min_up hm hle]
          exact decide_eq_decide.mpr ⟨fun h => V.int.inj h, fun h => congrArg V.int h⟩
        rw [← e1]
        exact rv_eq rfl
      · cases c with
        | none => exact ev_orV (a := true) (b := true) (ev_op (ev_var rfl) ev_c rv_isN) (fun z => by cases z)
        | some m0 =>
          refine ev_is (ev_orV (a := false) (b := lowB (some m0) w) (ev_op (ev_var rfl) ev_c rv_isN) (fun _ => ev_max_op (ev_var rfl) hS h0 (ev_var rfl) fun m hm hle => ?_)) (by simp)
          rw [← max_low hm hle]
          exact rv_I0
theorem ev_isHill {σ : L2.St} {H : Hp} {ta tb : TE} {z : Str} {c : Option Nat} {E : XK} (hl : z.length ≤ 90000) (h1 : Ev ta σ H (.str z)) (h2 : Ev tb σ H (ceilV c)) : Ev (tCall spIsHill [] E (tCons ta (tCons tb tNil))) σ H (.bl (hillS c z)) :=
  ev_call (ea_cons h1 (ea_cons h2 ea_nil)) fun H1 _ Q q _ => ⟨z, c, rfl, hl, q⟩
theorem ev_isHill_d {σ : L2.St} {H : Hp} {ta : TE} {z : Str} {E : XK} (hl : z.length ≤ 90000) (h1 : Ev ta σ H (.str z)) : Ev (tCall spIsHill [.non] E (tCons ta tNil)) σ H (.bl (hillS none z)) :=
  ev_call (ea_cons h1 ea_nil) fun H1 _ Q q _ => ⟨z, none, rfl, hl, q⟩
end
end Hl
/-! ranks.py. Classes of refusals: CN NoCount, CW NoRow, CK NoRank, CP NoPlace. -/
namespace Hl
open PySem PySem.Spec PyProof.Rows L2 Evl
abbrev s_need_hill : Stmt := topS 13
abbrev N_need_hill : List Str := ["row", "ceiling"]
abbrev ps_need_hill : List Str := ["row", "ceiling"]
theorem sc_need_hill : FnScope N_need_hill ps_need_hill (defScope s_need_hill) := ⟨rfl, rfl, rfl, by decide +kernel, rfl, by decide +kernel, by decide +kernel⟩



def spNeedHill (CW : Addr) : Sp := fun vs H Q E => ∃ (z : Str) (c : Option Nat), vs = [.str z, ceilV c] ∧ z.length ≤ 90000 ∧ (hillS c z = true → RetV .non H Q) ∧ (hillS c z = false → rx CW H E)
def spRank (CN CW : Addr) : Sp := fun vs H Q E => ∃ (z : Str) (y : V), vs = [.str z, y] ∧ z.length ≤ 1000 ∧ Plain y ∧ (okCeil y = false → rx CN H E) ∧
  (∀ c : Option Nat, y = ceilV c → (∀ m, c = some m → m ≤ 200) → (∀ w, z = rowS w → hillB c w = true → RetV (.int (rankF c 0 w)) H Q) ∧ (hillS c z = false → rx CW H E))
def spRowAt (CN CK : Addr) : Sp := fun vs H Q E => ∃ x y z : V, vs = [x, y, z] ∧ Plain x ∧ Plain y ∧ Plain z ∧ (isNum x 0 200 = false ∨ okCeil z = false → rx CN H E) ∧
  (∀ (n : Nat) (c : Option Nat), x = .int n → n ≤ 200 → z = ceilV c → (∀ m, c = some m → m ≤ 200) → (∀ r : Nat, y = .int r → r < W c (2 * n) 0 → RetV (.str (rowS (rowF c (2 * n) 0 r))) H Q) ∧ (isNum y 0 ((W c (2 * n) 0 : Nat) - 1 : Int) = false → rx CK H E))
section
variable {P : Program} {w : World} {K : PySem.W.Frag} {mg : Str → Option Value} {base : Heap} {f : Addr} {fd : FuncData}
theorem ok_need_hill {CW : Addr} (F : FnP K "need_hill" s_need_hill [.non] f fd) (f_is_hill : Cal P w K mg base 2 "is_hill" spIsHill []) (x_NoRow : Exc K mg "NoRow" CW) : FnOk P w K mg base (L2.CX P w) 3 f fd ps_need_hill (spNeedHill CW) := by
  refine F.ok sc_need_hill (fun vs H Q E h => ?_) (fun cdv A outer s H vs Q E hr h => ?_)
  · obtain ⟨z, c, rfl, _⟩ := h
    rfl
  · obtain ⟨z, c, rfl, hz, q, qe⟩ := h
    refine ⟨_, (pss_one (ps_if (pt_not (pt_val (pe_cal f_is_hill hr (by decide) (by rfl) hxOf (pa_cons (pv 0) (pa_cons (pv 1) pa_nil)))))
      (pss_one (ps_raise rfl tkOf x_NoRow.mk'))
      pss_nil)), ?_⟩
    exact s_when (et_not (et_B (ev_isHill hz (ev_var rfl) (ev_var rfl)))) (fun hb H1 e1 => qe (by simpa using hb) H1 e1) (fun hb H1 e1 => q (by simpa using hb) H1 e1)
theorem ev_needHill {σ : L2.St} {H : Hp} {ta tb : TE} {w : List Bool} {c : Option Nat} {CW : Addr} {E : XK} (hl : w.length ≤ 90000) (hh : hillB c w = true) (h1 : Ev ta σ H (.str (rowS w))) (h2 : Ev tb σ H (ceilV c)) : Ev (tCall (spNeedHill CW) [] E (tCons ta (tCons tb tNil))) σ H .non :=
  ev_call (ea_cons h1 (ea_cons h2 ea_nil)) fun H1 _ Q q E => ⟨_, c, rfl, by rw [rowS_len]; exact hl, fun _ => q, fun z => by rw [hillS_row, hh] at z; cases z⟩
theorem ev_needHill_d {σ : L2.St} {H : Hp} {ta : TE} {w : List Bool} {CW : Addr} {E : XK} (hl : w.length ≤ 90000) (hh : hillB none w = true) (h1 : Ev ta σ H (.str (rowS w))) : Ev (tCall (spNeedHill CW) [.non] E (tCons ta tNil)) σ H .non :=
  ev_call (ea_cons h1 ea_nil) fun H1 _ Q q E => ⟨_, none, rfl, by rw [rowS_len]; exact hl, fun _ => q, fun z => by rw [hillS_row, hh] at z; cases z⟩
theorem rx_needHill {σ : L2.St} {H : Hp} {ta tb : TE} {z : Str} {c : Option Nat} {CW : Addr} {E : XK} (hl : z.length ≤ 90000) (hh : hillS c z = false) (h1 : Ev ta σ H (.str z)) (h2 : Ev tb σ H (ceilV c)) (hE : rx CW H E) : Rx (tCall (spNeedHill CW) [] E (tCons ta (tCons tb tNil))) σ H :=
  rx_call (ea_cons h1 (ea_cons h2 ea_nil)) fun H1 e Q => ⟨z, c, rfl, hl, fun q => (by rw [hh] at q; cases q), fun _ H2 e2 => hE H2 (e.trans e2)⟩
theorem rx_needHill_d {σ : L2.St} {H : Hp} {ta : TE} {z : Str} {CW : Addr} {E : XK} (hl : z.length ≤ 90000) (hh : hillS none z = false) (h1 : Ev ta σ H (.str z)) (hE : rx CW H E) : Rx (tCall (spNeedHill CW) [.non] E (tCons ta tNil)) σ H :=
  rx_call (ea_cons h1 ea_nil) fun H1 e Q => ⟨z, none, rfl, hl, fun q => (by rw [hh] at q; cases q), fun _ H2 e2 => hE H2 (e.trans e2)⟩
theorem rx.mono {C : Addr} {H H' : Hp} {E : XK} (h : rx C H E) (e : Ex H H') : rx C H' E := fun H2 e2 => h H2 (e.trans e2)
theorem rx_need {σ : L2.St} {H : Hp} {ta : TE} {y : V} {C : Addr} {E : XK} (hp : Plain y) (h1 : Ev ta σ H y) (hy : okCeil y = false) (hE : rx C H E) : Rx (tCall (spNeedCeiling C) [] E (tCons ta tNil)) σ H :=
  rx_call (ea_cons h1 ea_nil) fun H1 e Q => ⟨y, rfl, hp, fun z => (by rw [hy] at z; cases z), fun _ => hE.mono e⟩
theorem ev_fromT {σ : L2.St} {H : Hp} {ta tb tc : TE} {v : V} {c : Option Nat} {L l : Nat} {h : Int} {E : XK} (hT : TabAt K c L v H) (hl : l ≤ L) (h1 : Ev ta σ H v) (h2 : Ev tb σ H (.int h)) (h3 : Ev tc σ H (.int (l : Int))) :
    Ev (tCall (spFromTable K) [] E (tCons ta (tCons tb (tCons tc tNil)))) σ H (.int (WZ c l h : Int)) :=
  ev_call (ea_cons h1 (ea_cons h2 (ea_cons h3 ea_nil))) fun H1 e Q q _ => ⟨v, c, L, l, h, rfl, hT.mono e, hl, q⟩
theorem eg_table {σ : L2.St} {H : Hp} {ta tb : TE} {L : Nat} {c : Option Nat} {E : XK} (hL : L ≤ 1000) (h1 : Ev ta σ H (.int (L : Int))) (h2 : Ev tb σ H (ceilV c)) : EvG (tCall (spTableOf K) [] E (tCons ta (tCons tb tNil))) σ H (TabAt K c L) :=
  eg_call (ea_cons h1 (ea_cons h2 ea_nil)) fun H1 _ Q q _ => ⟨L, c, rfl, hL, q⟩
theorem drop_cons {α : Type} {l : List α} {i : Nat} {x : α} (h : l[i]? = some x) : l.drop i = x :: l.drop (i + 1) := by
  obtain ⟨hi, rfl⟩ := List.getElem?_eq_some_iff.mp h
  exact List.drop_eq_getElem_cons hi
theorem rx_counted {σ : L2.St} {H : Hp} {ta tb : TE} {x y : V} {C : Addr} {E : XK} (hx : Plain x) (hy : Plain y) (hbad : isNum x 0 200 = false ∨ okCeil y = false) (h1 : Ev ta σ H x) (h2 : Ev tb σ H y) (hE : rx C H E) : Rx (tCall (spCounted C) [] E (tCons ta (tCons tb tNil))) σ H :=
  rx_call (ea_cons h1 (ea_cons h2 ea_nil)) fun H1 e Q => ⟨x, y, rfl, hx, hy, fun n c e1 hn e2 hc => (by
    exfalso
    subst e1 e2
    rcases hbad with z | z
    · rw [show isNum (.int (n : Int)) 0 200 = true by simp [isNum]; omega] at z
      cases z
    · rw [ok_ceil hc] at z
      cases z), fun _ => hE.mono e⟩
end
end Hl
/-! ranks.py: a sign, the neighbours. -/
namespace Hl
open PySem PySem.Spec PyProof.Rows L2 Evl



theorem nat_inj' {m n : Nat} (h : V.int (m : Int) = V.int (n : Int)) : m = n := by
  injection h with h
  omega
theorem ceil_inj' {c d : Option Nat} (h : ceilV c = ceilV d) : c = d := by
  cases c <;> cases d <;> first | rfl | (cases h; done) | (injection h with h; congr 1; omega)
theorem num_ok {n hi : Nat} (h : n ≤ hi) : isNum (.int (n : Int)) 0 (hi : Int) = true := by simp [isNum]; omega
theorem num200 {n : Nat} (h : n ≤ 200) : isNum (.int (n : Int)) 0 200 = true := num_ok (hi := 200) h
def nextF (c : Option Nat) (w : List Bool) : Option (List Bool) := if rankF c 0 w + 1 = W c w.length 0 then none else some (rowF c w.length 0 (rankF c 0 w + 1))
def aheadF (c : Option Nat) (w : List Bool) : Option (List Bool) := if rankF c 0 w = 0 then none else some (rowF c w.length 0 (rankF c 0 w - 1))
def optR : Option (List Bool) → V
  | none => .non
  | some w => .str (rowS w)
def spSignAt (CN CK CP : Addr) : Sp := fun vs H Q E => ∃ x y p z : V, vs = [x, y, p, z] ∧ Plain x ∧ Plain y ∧ Plain p ∧ Plain z ∧ (isNum x 0 200 = false ∨ okCeil z = false → rx CN H E) ∧
  (∀ (n : Nat) (c : Option Nat), x = .int n → n ≤ 200 → z = ceilV c → (∀ m, c = some m → m ≤ 200) → (isNum y 0 ((W c (2 * n) 0 : Nat) - 1 : Int) = false → rx CK H E) ∧
    ∀ r : Nat, y = .int r → r < W c (2 * n) 0 → (isNum p 0 (2 * (n : Int) - 1) = false → rx CP H E) ∧ ∀ (i : Nat) (b : Bool), p = .int i → (rowF c (2 * n) 0 r)[i]? = some b → RetV (.str (rowS [b])) H Q)
def spNear (g : Option Nat → List Bool → Option (List Bool)) (CN CW : Addr) : Sp := fun vs H Q E => ∃ (z : Str) (y : V), vs = [.str z, y] ∧ z.length ≤ 400 ∧ Plain y ∧ (okCeil y = false → rx CN H E) ∧
  (∀ c : Option Nat, y = ceilV c → (∀ m, c = some m → m ≤ 200) → (∀ w, z = rowS w → hillB c w = true → RetV (optR (g c w)) H Q) ∧ (hillS c z = false → rx CW H E))
theorem at_row {w : List Bool} {i : Nat} {b : Bool} (h : w[i]? = some b) : atI (rowS w).cps.toList (i : Int) = some (sg b) := atI_nat (by
  have : (rowS w).cps.toList = w.map sg := by unfold rowS; simp
  rw [this, List.getElem?_map, h]
  rfl)
section
variable {σ : L2.St} {H : Hp} {ta tb tc td : TE}
theorem ev_rowIx {w : List Bool} {i : Nat} {b : Bool} (hl : w.length ≤ 90000) (h : w[i]? = some b) (h1 : Ev ta σ H (.str (rowS w))) (h2 : Ev tb σ H (.int (i : Int))) : Ev (tOp rIxS ta tb) σ H (.str (rowS [b])) :=
  ev_op h1 h2 (rv_ixS (by rw [rowS_len]; omega) (at_row h))
theorem ev_rank {w : List Bool} {c : Option Nat} {CN CW : Addr} {E : XK} (hl : w.length ≤ 1000) (hc : ∀ m, c = some m → m ≤ 200) (hh : hillB c w = true) (h1 : Ev ta σ H (.str (rowS w))) (h2 : Ev tb σ H (ceilV c)) : Ev (tCall (spRank CN CW) [] E (tCons ta (tCons tb tNil))) σ H (.int (rankF c 0 w)) :=
  ev_call (ea_cons h1 (ea_cons h2 ea_nil)) fun H1 _ Q q E => ⟨_, _, rfl, by rw [rowS_len]; exact hl, plain_ceil c, fun z => (by rw [ok_ceil hc] at z; cases z), fun c' e _ => by
    rw [← ceil_inj' e]
    exact ⟨fun w' e2 _ => by rw [← rowS_inj e2]; exact q, fun z => by rw [hillS_row, hh] at z; cases z⟩⟩
theorem ev_rank_d {w : List Bool} {CN CW : Addr} {E : XK} (hl : w.length ≤ 1000) (hh : hillB none w = true) (h1 : Ev ta σ H (.str (rowS w))) : Ev (tCall (spRank CN CW) [.non] E (tCons ta tNil)) σ H (.int (rankF none 0 w)) :=
  fun H1 e Q q => h1 H1 e _ fun H2 e2 => ev_rank (E := E) (c := none) (tb := tC .non) hl (fun _ z => by cases z) hh (ta := tC (.str (rowS w))) (σ := σ) (H := H2) ev_c ev_c H2 (Ex.refl _) Q (fun H3 e3 => q H3 (e2.trans e3))
theorem ev_rowAt {n r : Nat} {c : Option Nat} {CN CK : Addr} {E : XK} (hn : n ≤ 200) (hc : ∀ m, c = some m → m ≤ 200) (hr : r < W c (2 * n) 0) (h1 : Ev ta σ H (.int (n : Int))) (h2 : Ev tb σ H (.int (r : Int))) (h3 : Ev tc σ H (ceilV c)) : Ev (tCall (spRowAt CN CK) [] E (tCons ta (tCons tb (tCons tc tNil)))) σ H (.str (rowS (rowF c (2 * n) 0 r))) :=
  ev_call (ea_cons h1 (ea_cons h2 (ea_cons h3 ea_nil))) fun H1 _ Q q E => ⟨_, _, _, rfl, .int _, .int _, plain_ceil c, fun z => (by
    rcases z with z | z
    · rw [num200 hn] at z
      cases z
    · rw [ok_ceil hc] at z
      cases z), fun n' c' e1 _ e2 _ => by
    rw [← nat_inj' e1, ← ceil_inj' e2]
    refine ⟨fun r' e3 _ => by rw [← nat_inj' e3]; exact q, fun z => ?_⟩
    have : isNum (.int (r : Int)) 0 ((W c (2 * n) 0 : Nat) - 1 : Int) = true := by simp [isNum]; omega
    rw [this] at z
    cases z⟩
theorem ev_rowAt_d {n r : Nat} {CN CK : Addr} {E : XK} (hn : n ≤ 200) (hr : r < W none (2 * n) 0) (h1 : Ev ta σ H (.int (n : Int))) (h2 : Ev tb σ H (.int (r : Int))) : Ev (tCall (spRowAt CN CK) [.non] E (tCons ta (tCons tb tNil))) σ H (.str (rowS (rowF none (2 * n) 0 r))) :=
  fun H1 e Q q => h1 H1 e _ fun H2 e2 => h2 H2 (e.trans e2) _ fun H3 e3 => ev_rowAt (E := E) (c := none) (tc := tC .non) hn (fun _ z => by cases z) hr (ta := tC (.int (n : Int))) (tb := tC (.int (r : Int))) (σ := σ) (H := H3) ev_c ev_c ev_c H3 (Ex.refl _) Q (fun H4 e4 => q H4 ((e2.trans e3).trans e4))
theorem ev_signAt {n r i : Nat} {b : Bool} {c : Option Nat} {CN CK CP : Addr} {E : XK} (hn : n ≤ 200) (hc : ∀ m, c = some m → m ≤ 200) (hr : r < W c (2 * n) 0) (hb : (rowF c (2 * n) 0 r)[i]? = some b) (h1 : Ev ta σ H (.int (n : Int))) (h2 : Ev tb σ H (.int (r : Int))) (h3 : Ev tc σ H (.int (i : Int))) (h4 : Ev td σ H (ceilV c)) : Ev (tCall (spSignAt CN CK CP) [] E (tCons ta (tCons tb (tCons tc (tCons td tNil))))) σ H (.str (rowS [b])) :=
  ev_call (ea_cons h1 (ea_cons h2 (ea_cons h3 (ea_cons h4 ea_nil)))) fun H1 _ Q q E => ⟨_, _, _, _, rfl, .int _, .int _, .int _, plain_ceil c, fun z => (by
    rcases z with z | z
    · rw [num200 hn] at z
      cases z
    · rw [ok_ceil hc] at z
      cases z), fun n' c' e1 _ e2 _ => by
    rw [← nat_inj' e1, ← ceil_inj' e2]
    refine ⟨fun z => ?_, fun r' e3 _ => ?_⟩
    · have : isNum (.int (r : Int)) 0 ((W c (2 * n) 0 : Nat) - 1 : Int) = true := by simp [isNum]; omega
      rw [this] at z
      cases z
    · rw [← nat_inj' e3]
      refine ⟨fun z => ?_, fun i' b' e4 e5 => ?_⟩
      · have hi := (List.getElem?_eq_some_iff.mp hb).1
        rw [rowF_len] at hi
        have : isNum (.int (i : Int)) 0 (2 * (n : Int) - 1) = true := by simp [isNum]; omega
        rw [this] at z
        cases z
      · rw [← nat_inj' e4, hb] at e5
        cases e5
        exact q⟩
theorem ev_near {g : Option Nat → List Bool → Option (List Bool)} {w : List Bool} {c : Option Nat} {CN CW : Addr} {E : XK} (hl : w.length ≤ 400) (hc : ∀ m, c = some m → m ≤ 200) (hh : hillB c w = true) (h1 : Ev ta σ H (.str (rowS w))) (h2 : Ev tb σ H (ceilV c)) : Ev (tCall (spNear g CN CW) [] E (tCons ta (tCons tb tNil))) σ H (optR (g c w)) :=
  ev_call (ea_cons h1 (ea_cons h2 ea_nil)) fun H1 _ Q q E => ⟨_, _, rfl, by rw [rowS_len]; exact hl, plain_ceil c, fun z => (by rw [ok_ceil hc] at z; cases z), fun c' e _ => by
    rw [← ceil_inj' e]
    exact ⟨fun w' e2 _ => by rw [← rowS_inj e2]; exact q, fun z => by rw [hillS_row, hh] at z; cases z⟩⟩
theorem ev_near_d {g : Option Nat → List Bool → Option (List Bool)} {w : List Bool} {CN CW : Addr} {E : XK} (hl : w.length ≤ 400) (hh : hillB none w = true) (h1 : Ev ta σ H (.str (rowS w))) : Ev (tCall (spNear g CN CW) [.non] E (tCons ta tNil)) σ H (optR (g none w)) :=
  fun H1 e Q q => h1 H1 e _ fun H2 e2 => ev_near (g := g) (E := E) (c := none) (tb := tC .non) hl (fun _ z => by cases z) hh (ta := tC (.str (rowS w))) (σ := σ) (H := H2) ev_c ev_c H2 (Ex.refl _) Q (fun H3 e3 => q H3 (e2.trans e3))
theorem rx_rank {z : Str} {y : V} {CN CW : Addr} {E : XK} (hz : z.length ≤ 1000) (hp : Plain y) (h1 : Ev ta σ H (.str z)) (h2 : Ev tb σ H y) (hN : okCeil y = false → rx CN H E) (hW : ∀ c, y = ceilV c → (∀ m, c = some m → m ≤ 200) → hillS c z = false ∧ rx CW H E) : Rx (tCall (spRank CN CW) [] E (tCons ta (tCons tb tNil))) σ H :=
  rx_call (ea_cons h1 (ea_cons h2 ea_nil)) fun H1 e Q => ⟨_, _, rfl, hz, hp, fun a => (hN a).mono e, fun c ec hc => ⟨fun w ew hw => (by
    have := (hW c ec hc).1
    rw [ew, hillS_row, hw] at this
    cases this), fun _ => (hW c ec hc).2.mono e⟩⟩
end
section
variable {P : Program} {w : World} {K : PySem.W.Frag} {mg : Str → Option Value} {base : Heap} {f : Addr} {fd : FuncData}
end
end Hl
/-! Rows in the order of texts. -/
namespace Hl
open PySem PySem.Spec PyProof.Rows L2 Evl
/-! rows in order -/
theorem lt_rows : ∀ v w : List Bool, ltCps (v.map sg) (w.map sg) = wlt v w
  | [], [] => rfl
  | [], _ :: _ => rfl
  | _ :: _, [] => rfl
  | a :: v, b :: w => by
    have ih := lt_rows v w
    show (decide (sg a < sg b) || (sg a == sg b && ltCps (v.map sg) (w.map sg))) = ((!a && b) || (a == b && wlt v w))
    rw [ih]
    cases a <;> cases b <;> simp [sg]
theorem leS_rows {v w : List Bool} (h : wlt w v = false) : leS (rowS v) (rowS w) := by
  show ltCps _ _ = false
  rw [rowS_cps, rowS_cps, lt_rows]
  exact h
theorem W_le_none (c : Option Nat) : ∀ l h, W c l h ≤ W none l h
  | 0, h => by simp [W]
  | l + 1, h => by
    cases e : over c h with
    | true => rw [W_over e]; omega
    | false =>
      rw [W_step e, W_step (c := none) rfl]
      have h1 := W_le_none c l (h - 1)
      have h2 := W_le_none c l (h + 1)
      split <;> omega
theorem WZ_le_none (c : Option Nat) (l : Nat) (h : Int) : WZ c l h ≤ WZ none l h := by
  unfold WZ
  split
  · omega
  · exact W_le_none c l _
theorem rank_le_none (c : Option Nat) : ∀ (w : List Bool) (h : Nat), rankF c h w ≤ rankF none h w
  | [], _ => Nat.le_refl _
  | true :: w, h => by
    have h1 := rank_le_none c w (h + 1)
    have h2 := WZ_le_none c w.length ((h : Int) - 1)
    show WZ c w.length ((h : Int) - 1) + rankF c (h + 1) w ≤ WZ none w.length ((h : Int) - 1) + rankF none (h + 1) w
    omega
  | false :: w, h => rank_le_none c w (h - 1)
theorem allRows_sorted (c : Option Nat) (n : Nat) : ((allRows c n).map rowS).Pairwise leS := by
  rw [allRows_eq, List.pairwise_map, List.pairwise_map]
  have : (List.range (W c (2 * n) 0)).Pairwise (· < ·) := List.pairwise_lt_range
  refine (List.Pairwise.and_mem.mp this).imp ?_
  rintro i j ⟨hi, hj, hij⟩
  have hi := List.mem_range.mp hi
  have hj := List.mem_range.mp hj
  obtain ⟨a1, a2⟩ := rowF_ok (over_zero c) hi
  obtain ⟨b1, b2⟩ := rowF_ok (over_zero c) hj
  apply leS_rows
  cases e : wlt (rowF c (2 * n) 0 j) (rowF c (2 * n) 0 i) with
  | false => rfl
  | true =>
    have := (rank_mono (by rw [rowF_len, rowF_len]) (over_zero c) b1 a1).mp e
    rw [a2, b2] at this
    omega
end Hl
/-! The law's own draws. -/
namespace Hl
open PySem PySem.Spec PyProof.Rows L2 Evl
def mixed (c k : Int) : Int := ((((c % 2147483629 + 104729 * (k + 1)) * 16807 % 2147483647) * ((c % 2147483629 + 104729 * (k + 1)) * 16807 % 2147483647)) % 2147483629 * 48271) % 2147483647
theorem mixed_lo (c k : Int) : 0 ≤ mixed c k := Int.emod_nonneg _ (by decide)
theorem mixed_hi (c k : Int) : mixed c k < 2147483647 := Int.emod_lt_of_pos _ (by decide)
abbrev s_law_mixed : Stmt := topS 19
abbrev N_law_mixed : List Str := ["_law_cell", "_law_k", "_law_mark"]
abbrev ps_law_mixed : List Str := ["_law_cell", "_law_k"]
theorem sc_law_mixed : FnScope N_law_mixed ps_law_mixed (defScope s_law_mixed) := ⟨rfl, rfl, rfl, by decide +kernel, rfl, by decide +kernel, by decide +kernel⟩

abbrev s_law_number : Stmt := topS 20
abbrev N_law_number : List Str := ["_law_script", "_law_k"]
abbrev ps_law_number : List Str := ["_law_script", "_law_k"]
theorem sc_law_number : FnScope N_law_number ps_law_number (defScope s_law_number) := ⟨rfl, rfl, rfl, by decide +kernel, rfl, by decide +kernel, by decide +kernel⟩

def spMixed : Sp := fun vs H Q _ => ∃ c k : Int, vs = [.int c, .int k] ∧ RetV (.int (mixed c k)) H Q
def cellOf (ns : List Int) (k : Nat) : Int := ns.getD k 0
def spNumber (K : PySem.W.Frag) : Sp := fun vs H Q _ => ∃ (a : Addr) (ns : List Int) (k : Nat), vs = [.ref a, .int (k : Int)] ∧ SqL K H a (ns.map V.int) ∧ RetV (.int (mixed (cellOf ns k) k)) H Q
section
variable {P : Program} {w : World} {K : PySem.W.Frag} {mg : Str → Option Value} {base : Heap} {f : Addr} {fd : FuncData}
theorem ok_law_mixed (F : FnP K "_law_mixed" s_law_mixed [] f fd) : FnOk P w K mg base (L2.CX P w) 1 f fd ps_law_mixed spMixed := by
  refine F.ok sc_law_mixed (fun vs H Q E h => ?_) (fun cdv A outer s H vs Q E hr h => ?_)
  · obtain ⟨c, k, rfl, _⟩ := h
    rfl
  · obtain ⟨c, k, rfl, q⟩ := h
    refine ⟨_, (pss_cons (ps_set (i := 2) sc_law_mixed.nd rfl (by first | exact Or.inl rfl | exact Or.inr rfl) (pe_op op_mod (pe_op op_mul (pe_op op_add (pe_op op_mod (pv 0) pe_int) (pe_op op_mul pe_int (pe_op op_add (pv 1) pe_int))) pe_int) pe_int))
    (pss_one (ps_ret (pe_op op_mod (pe_op op_mul (pe_op op_mod (pe_op op_mul (pv 2) (pv 2)) pe_int) pe_int) pe_int)))), ?_⟩
    have h0 : 0 ≤ (c % 2147483629 + 104729 * (k + 1)) * 16807 % 2147483647 := Int.emod_nonneg _ (by decide)
    have h1 : (c % 2147483629 + 104729 * (k + 1)) * 16807 % 2147483647 < 2147483647 := Int.emod_lt_of_pos _ (by decide)
    refine q_asg (v := .int ((c % 2147483629 + 104729 * (k + 1)) * 16807 % 2147483647)) (by walk_at "ev") fun H1 e1 => ?_
    refine s_ret (v := .int (mixed c k)) (by walk_at "ev") fun H2 e2 => q H2 (e1.trans e2)
theorem ev_mixed {σ : L2.St} {H : Hp} {ta tb : TE} {c k : Int} {E : XK} (h1 : Ev ta σ H (.int c)) (h2 : Ev tb σ H (.int k)) : Ev (tCall spMixed [] E (tCons ta (tCons tb tNil))) σ H (.int (mixed c k)) :=
  ev_call (ea_cons h1 (ea_cons h2 ea_nil)) fun H1 _ Q q _ => ⟨c, k, rfl, q⟩
theorem ok_law_number (F : FnP K "_law_number" s_law_number [] f fd) (B : Blt mg) (f__law_mixed : Cal P w K mg base 1 "_law_mixed" spMixed []) : FnOk P w K mg base (L2.CX P w) 2 f fd ps_law_number (spNumber K) := by
  refine F.ok sc_law_number (fun vs H Q E h => ?_) (fun cdv A outer s H vs Q E hr h => ?_)
  · obtain ⟨a, ns, k, rfl, _⟩ := h
    rfl
  · obtain ⟨a, ns, k, rfl, hS, q⟩ := h
    refine ⟨_, (pss_one (ps_ret (pe_cal f__law_mixed hr (by decide) (by rfl) hxOf (pa_cons (pe_ifExp (pt_cmpR op_lt (pv 1) (pe_callB call_len_seq (by rfl) B.len (by first | rfl | decide +kernel) (pa_cons (pv 0) pa_nil)) (nomark _)) (pe_ix ix_list (pv 0) (pv 1) (fun _ _ => rfl)) pe_int) (pa_cons (pv 1) pa_nil))))), ?_⟩
    refine s_ret (ev_mixed (c := cellOf ns k) (k := (k : Int)) (ev_if (b := decide ((k : Int) < ((ns.map V.int).length : Int))) (et_test (ev_op (ev_var rfl) (ev_len (ev_var rfl) hS) rv_I0)) (fun hb => ?_) (fun hb => ?_)) (ev_var rfl)) q
    · have hk : k < ns.length := by simpa using hb
      exact ev_op (ev_var rfl) (ev_var rfl) (rv_ixL hS (at_int (i := k) rfl (by simp [cellOf, hk])))
    · have hk : ns.length ≤ k := by simpa using hb
      refine ev_is ev_c ?_
      simp [cellOf, List.getD, List.getElem?_eq_none hk]
theorem ev_number {σ : L2.St} {H : Hp} {ta tb : TE} {a : Addr} {ns : List Int} {k : Nat} {E : XK} (hS : SqL K H a (ns.map V.int)) (h1 : Ev ta σ H (.ref a)) (h2 : Ev tb σ H (.int (k : Int))) : Ev (tCall (spNumber K) [] E (tCons ta (tCons tb tNil))) σ H (.int (mixed (cellOf ns k) k)) :=
  ev_call (ea_cons h1 (ea_cons h2 ea_nil)) fun H1 e Q q _ => ⟨a, ns, k, rfl, ex_l e hS, q⟩
end
end Hl
/-! The law's own hill row. -/
namespace Hl
open PySem PySem.Spec PyProof.Rows L2 Evl
abbrev s_law_row : Stmt := topS 21
abbrev N_law_row : List Str := ["_law_script", "_law_ceiling", "_law_ups", "_law_row_here", "_law_height", "_law_k", "_law_mark"]
abbrev ps_law_row : List Str := ["_law_script", "_law_ceiling"]
theorem sc_law_row : FnScope N_law_row ps_law_row (defScope s_law_row) := ⟨rfl, rfl, rfl, by decide +kernel, rfl, by decide +kernel, by decide +kernel⟩

theorem countIn_row (b : Bool) : ∀ w : List Bool, countIn (.str ⟨#[sg b]⟩) ((w.map sg).map fun n => PyData.str ⟨#[n]⟩) = (w.count b : Int)
  | [] => rfl
  | a :: w => by
    have ih := countIn_row b w
    show (if same (.str ⟨#[sg a]⟩) (.str ⟨#[sg b]⟩) = true then (1 : Int) else 0) + countIn _ _ = _
    rw [ih]
    have e : same (.str ⟨#[sg a]⟩) (.str ⟨#[sg b]⟩) = (a == b) := by
      cases a <;> cases b <;> rfl
    rw [e]
    by_cases z : a = b
    · subst z
      simp
      omega
    · rw [List.count_cons_of_ne z]
      simp [z]
theorem count_u (w : List Bool) : Txt.count (rowS w) "u" = (w.count true : Int) := by
  have e : ("u" : Str) = ⟨#[sg true]⟩ := rfl
  rw [e, count_is, rowS_cps]
  exact countIn_row true w
theorem eqv_nil (ns : List Int) : PyData.eqv (.list (ns.map PyData.int)) (.list []) = decide (ns = []) := by
  cases ns with
  | nil => rfl
  | cons n r => rfl
def lrUps (ns : List Int) : Int := if (if mixed ((ns.take 2).sum) (ns.length : Int) / 7 % 61 > (ns.length : Int) / 2 then mixed ((ns.take 2).sum) (ns.length : Int) / 7 % 61 else (ns.length : Int) / 2) < 60 then (if mixed ((ns.take 2).sum) (ns.length : Int) / 7 % 61 > (ns.length : Int) / 2 then mixed ((ns.take 2).sum) (ns.length : Int) / 7 % 61 else (ns.length : Int) / 2) else 60
def lrMark (ns : List Int) (i : Nat) : Int := mixed (if (!decide (ns = [])) = true then ns.getD (i % ns.length) 0 else 0) i
/-- whether the next sign is an up -/
def lrGo (c : Option Nat) (ns : List Int) (ups i : Nat) (s : List Bool × Nat) : Bool := decide (s.2 = 0) || (decide (s.1.count true < ups) && (decide (V.int (s.2 : Int) ≠ ceilV c) && decide (1 < lrMark ns i % 5)))
def lrStep (c : Option Nat) (ns : List Int) (ups i : Nat) (s : List Bool × Nat) : List Bool × Nat := if lrGo c ns ups i s = true then (s.1 ++ [true], s.2 + 1) else (s.1 ++ [false], s.2 - 1)
def lrRun (c : Option Nat) (ns : List Int) (ups : Nat) : Nat → List Bool × Nat
  | 0 => ([], 0)
  | i + 1 => lrStep c ns ups i (lrRun c ns ups i)
def lawRow (ns : List Int) (c : Option Nat) : List Bool := (lrRun c ns (lrUps ns).toNat (2 * (lrUps ns).toNat)).1
def spLRow (K : PySem.W.Frag) : Sp := fun vs H Q _ => ∃ (a : Addr) (ns : List Int) (c : Option Nat), vs = [.ref a, ceilV c] ∧ SqL K H a (ns.map V.int) ∧ ns.length ≤ 63 ∧ (∀ m, c = some m → 1 ≤ m) ∧ RetV (.str (rowS (lawRow ns c))) H Q
/-- what holds of a beginning: the ups, the height -/
def BegOk (c : Option Nat) (ups : Nat) (u : List Bool) (h : Nat) : Prop := (∀ v, okF c 0 (u ++ v) = okF c h v) ∧ over c h = false ∧ u.count true ≤ ups ∧ h + u.length = 2 * u.count true
theorem beg_nil (c : Option Nat) (ups : Nat) : BegOk c ups [] 0 := ⟨fun _ => rfl, over_zero c, Nat.zero_le _, rfl⟩
theorem beg_up {c : Option Nat} {ups h : Nat} {u : List Bool} (b : BegOk c ups u h) (hu : u.count true < ups) (ho : over c (h + 1) = false) : BegOk c ups (u ++ [true]) (h + 1) := by
  obtain ⟨b1, b2, b3, b4⟩ := b
  refine ⟨fun v => ?_, ho, ?_, ?_⟩
  · rw [List.append_assoc, b1]
    show (!over c (h + 1) && okF c (h + 1) v) = _
    rw [ho]
    rfl
  · simp [List.count_append]
    omega
  · simp [List.count_append]
    omega
theorem beg_down {c : Option Nat} {ups h : Nat} {u : List Bool} (b : BegOk c ups u h) (h0 : 0 < h) : BegOk c ups (u ++ [false]) (h - 1) := by
  obtain ⟨b1, b2, b3, b4⟩ := b
  refine ⟨fun v => ?_, not_over_down b2, ?_, ?_⟩
  · rw [List.append_assoc, b1]
    show (decide (0 < h) && okF c (h - 1) v) = _
    rw [decide_eq_true h0]
    rfl
  · simpa [List.count_append] using b3
  · simp [List.count_append]
    omega
theorem beg_end {c : Option Nat} {ups h : Nat} {u : List Bool} (b : BegOk c ups u h) (hl : u.length = 2 * ups) : hillB c u = true := by
  obtain ⟨b1, b2, b3, b4⟩ := b
  have h0 : h = 0 := by omega
  subst h0
  have := b1 []
  rw [List.append_nil] at this
  rw [hill_ok, this]
  rfl
theorem lrUps_ok (ns : List Int) (h : ns.length ≤ 200) : 0 ≤ lrUps ns ∧ lrUps ns ≤ 60 := by
  unfold lrUps
  have h0 := mixed_lo ((ns.take 2).sum) (ns.length : Int)
  generalize mixed ((ns.take 2).sum) (ns.length : Int) = mk at h0
  have h1 : 0 ≤ (if mk / 7 % 61 > (ns.length : Int) / 2 then mk / 7 % 61 else (ns.length : Int) / 2) := by split <;> omega
  generalize (if mk / 7 % 61 > (ns.length : Int) / 2 then mk / 7 % 61 else (ns.length : Int) / 2) = x at h1
  split <;> omega
theorem lr_beg {c : Option Nat} {ns : List Int} {ups : Nat} (hc : ∀ m, c = some m → 1 ≤ m) : ∀ i, i ≤ 2 * ups → (lrRun c ns ups i).1.length = i ∧ BegOk c ups (lrRun c ns ups i).1 (lrRun c ns ups i).2
  | 0, _ => ⟨rfl, beg_nil c ups⟩
  | i + 1, hi => by
    obtain ⟨hl, hb⟩ := lr_beg (ns := ns) (ups := ups) hc i (by omega)
    show (lrStep c ns ups i (lrRun c ns ups i)).1.length = i + 1 ∧ BegOk c ups (lrStep c ns ups i (lrRun c ns ups i)).1 (lrStep c ns ups i (lrRun c ns ups i)).2
    generalize lrRun c ns ups i = s at hl hb
    obtain ⟨u, h⟩ := s
    have hb2 := hb
    obtain ⟨b1, b2, b3, b4⟩ := hb2
    have hl2 : u.length = i := hl
    have b3' : u.count true ≤ ups := b3
    have b4' : h + u.length = 2 * u.count true := b4
    unfold lrStep
    cases hg : lrGo c ns ups i (u, h) with
    | true =>
      rw [if_pos rfl]
      unfold lrGo at hg
      simp only [Bool.or_eq_true, Bool.and_eq_true, decide_eq_true_eq] at hg
      refine ⟨by simp [hl2], beg_up hb ?_ ?_⟩
      · rcases hg with z | ⟨z, _, _⟩
        · dsimp only
          omega
        · exact z
      · cases c with
        | none => rfl
        | some m =>
          have hm := hc m rfl
          have hb2 : ¬ m < h := by simpa [over] using b2
          show decide (m < h + 1) = false
          refine decide_eq_false ?_
          rcases hg with z | ⟨_, z, _⟩
          · omega
          · have : h ≠ m := fun e => z (by rw [e]; rfl)
            omega
    | false =>
      rw [if_neg (by decide)]
      unfold lrGo at hg
      simp only [Bool.or_eq_false_iff, decide_eq_false_iff_not] at hg
      exact ⟨by simp [hl2], beg_down hb (by have := hg.1; dsimp only; omega)⟩
theorem lawRow_ok {ns : List Int} {c : Option Nat} (hl : ns.length ≤ 200) (hc : ∀ m, c = some m → 1 ≤ m) : hillB c (lawRow ns c) = true ∧ (lawRow ns c).length ≤ 120 := by
  obtain ⟨h0, h1⟩ := lrUps_ok ns hl
  obtain ⟨hl2, hb⟩ := lr_beg (ns := ns) (ups := (lrUps ns).toNat) hc (2 * (lrUps ns).toNat) (Nat.le_refl _)
  exact ⟨beg_end hb hl2, by unfold lawRow; omega⟩
section
variable {P : Program} {w : World} {K : PySem.W.Frag} {mg : Str → Option Value} {base : Heap} {f : Addr} {fd : FuncData}
theorem ev_min2 {σ : L2.St} {H : Hp} {ta tb : TE} {i j : Int} (ha : Ev ta σ H (.int i)) (hb : Ev tb σ H (.int j)) : Ev (tCB (fun xs H Q => ∃ i j, xs = [.int i, .int j] ∧ Q (.int (if j < i then j else i)) H) (tCons ta (tCons tb tNil))) σ H (.int (if j < i then j else i)) :=
  ev_cb (ea_cons ha (ea_cons hb ea_nil)) fun H1 _ Q q => ⟨i, j, rfl, q H1 (Ex.refl H1)⟩
theorem ev_sumN {σ : L2.St} {H : Hp} {ta : TE} {ns : List Int} (ha : EvL ta σ H (ns.map V.int)) : Ev (tCB (rSum K) (tCons ta tNil)) σ H (.int ns.sum) := fun H1 e Q q => ha H1 e _ fun p H2 _ e2 hp => ⟨p, ns, rfl, sq_of hp, q H2 e2⟩
theorem ev_countU {σ : L2.St} {H : Hp} {ta : TE} {w : List Bool} (ha : Ev ta σ H (.str (rowS w))) : Ev (tBM K "str" (fun x xs H Q => ∃ a b, x = .str a ∧ xs = [.str b] ∧ Q (.int (Txt.count a b)) H) ta (tCons (tC (.str "u")) tNil)) σ H (.int (w.count true : Int)) := fun H1 e Q q =>
  ha H1 e _ fun H2 e2 => ⟨rfl, ⟨_, _, rfl, rfl, by rw [count_u]; exact q H2 e2⟩⟩
theorem ev_lawRow {σ : L2.St} {H : Hp} {ta tb : TE} {a : Addr} {ns : List Int} {c : Option Nat} {E : XK} (hS : SqL K H a (ns.map V.int)) (hl : ns.length ≤ 63) (hc : ∀ m, c = some m → 1 ≤ m) (h1 : Ev ta σ H (.ref a)) (h2 : Ev tb σ H (ceilV c)) :
    Ev (tCall (spLRow K) [] E (tCons ta (tCons tb tNil))) σ H (.str (rowS (lawRow ns c))) :=
  ev_call (ea_cons h1 (ea_cons h2 ea_nil)) fun H1 e Q q _ => ⟨a, ns, c, rfl, ex_l e hS, hl, hc, q⟩
theorem ev_lawRowN {σ : L2.St} {H : Hp} {ta tb : TE} {ns : List Int} {c : Option Nat} {E : XK} (hl : ns.length ≤ 63) (hc : ∀ m, c = some m → 1 ≤ m) (h1 : EvL ta σ H (ns.map V.int)) (h2 : ∀ H1, Ex H H1 → Ev tb σ H1 (ceilV c)) :
    Ev (tCall (spLRow K) [] E (tCons ta (tCons tb tNil))) σ H (.str (rowS (lawRow ns c))) := fun H1 e Q q =>
  h1 H1 e _ fun p H2 _ e2 hp => h2 H2 (e.trans e2) H2 (Ex.refl H2) _ fun H3 e3 => ⟨p, ns, c, rfl, sq_of (e3 p _ hp), hl, hc, fun H4 e4 => q H4 ((e2.trans e3).trans e4)⟩
theorem eg_lawRow {σ : L2.St} {H : Hp} {ta tb : TE} {a : Addr} {ns : List Int} {c : Option Nat} {E : XK} (hS : SqL K H a (ns.map V.int)) (hl : ns.length ≤ 63) (hc : ∀ m, c = some m → 1 ≤ m) (h1 : Ev ta σ H (.ref a)) (h2 : Ev tb σ H (ceilV c)) :
    EvG (tCall (spLRow K) [] E (tCons ta (tCons tb tNil))) σ H (fun v _ => ∃ w : List Bool, v = .str (rowS w) ∧ hillB c w = true ∧ w.length ≤ 120) := fun H1 e Q q =>
  ev_lawRow hS hl hc h1 h2 H1 e Q fun H2 e2 => q _ H2 e2 ⟨_, rfl, (lawRow_ok (by omega) hc).1, (lawRow_ok (by omega) hc).2⟩
theorem ok_law_row (F : FnP K "_law_row" s_law_row [] f fd) (B : Blt mg) (f__law_mixed : Cal P w K mg base 1 "_law_mixed" spMixed []) : FnOk P w K mg base (L2.CX P w) 2 f fd ps_law_row (spLRow K) := by
  refine F.ok sc_law_row (fun vs H Q E h => ?_) (fun cdv A outer s H vs Q E hr h => ?_)
  · obtain ⟨a, ns, c, rfl, _⟩ := h
    rfl
  · obtain ⟨a, ns, c, rfl, hS, hl, hc, q⟩ := h
    refine ⟨_, (pss_cons (ps_set (i := 2) sc_law_row.nd rfl (by first | exact Or.inl rfl | exact Or.inr rfl) (pe_callB (call_min2 rfl) (by rfl) B.min (by first | rfl | decide +kernel) (pa_cons pe_int (pa_cons (pe_callB (call_max2 rfl) (by rfl) B.max (by first | rfl | decide +kernel) (pa_cons (pe_op op_fdiv (pe_callB call_len_seq (by rfl) B.len (by first | rfl | decide +kernel) (pa_cons (pv 0) pa_nil)) pe_int) (pa_cons (pe_op op_mod (pe_op op_fdiv (pe_cal f__law_mixed hr (by decide) (by rfl) hxOf (pa_cons (pe_callB (cr_sum rfl) (by rfl) B.sum (by first | rfl | decide +kernel) (pa_cons (pe_slice sl_list (pv 0) po_none (po_some pe_int)) pa_nil)) (pa_cons (pe_callB call_len_seq (by rfl) B.len (by first | rfl | decide +kernel) (pa_cons (pv 0) pa_nil)) pa_nil))) pe_int) pe_int) pa_nil))) pa_nil))))
    (pss_cons (ps_set (i := 3) sc_law_row.nd rfl (by first | exact Or.inl rfl | exact Or.inr rfl) pe_str)
    (pss_cons (ps_set (i := 4) sc_law_row.nd rfl (by first | exact Or.inl rfl | exact Or.inr rfl) pe_int)
    (pss_cons (ps_for hpOf rfl (pi_range1 (by rfl) B.range (pa_cons (pe_op op_mul pe_int (pv 2)) pa_nil)) (pg_name (i := 5) sc_law_row.nd rfl (by first | exact Or.inl rfl | exact Or.inr rfl))
      (pss_cons (ps_set (i := 6) sc_law_row.nd rfl (by first | exact Or.inl rfl | exact Or.inr rfl) (pe_cal f__law_mixed hr (by decide) (by rfl) hxOf (pa_cons (pe_ifExp (pt_cmpR (op_neD hr.units) (pv 0) (pe_lst pa_nil) (nomark _)) (pe_ix ix_list (pv 0) (pe_op op_mod (pv 5) (pe_callB call_len_seq (by rfl) B.len (by first | rfl | decide +kernel) (pa_cons (pv 0) pa_nil))) (fun _ _ => rfl)) pe_int) (pa_cons (pv 5) pa_nil))))
      (pss_one (ps_if (PW.pt (pw_or (pt_cmpR op_eq (pv 4) pe_int (nomark _)) (pw_or1 (PW.pt (pw_and (pt_cmpR op_lt (pe_bm PySem.F.plainAttrs_str PySem.F.slot_str_count PySem.F.type_str_count mt_count (pv 3) (pa_cons pe_str pa_nil)) (pv 2) (nomark _)) (pw_and (pt_cmpR op_ne (pv 4) (pv 1) (nomark _)) (pw_and1 (pt_cmpR op_gt (pe_op op_mod (pv 6) pe_int) pe_int (nomark _)))))))))
        (pss_cons (ps_set (i := 3) sc_law_row.nd rfl (by first | exact Or.inl rfl | exact Or.inr rfl) (pe_op op_add_str (pv 3) pe_str))
        (pss_one (ps_set (i := 4) sc_law_row.nd rfl (by first | exact Or.inl rfl | exact Or.inr rfl) (pe_op op_add (pv 4) pe_int))))
        (pss_cons (ps_set (i := 3) sc_law_row.nd rfl (by first | exact Or.inl rfl | exact Or.inr rfl) (pe_op op_add_str (pv 3) pe_str))
        (pss_one (ps_set (i := 4) sc_law_row.nd rfl (by first | exact Or.inl rfl | exact Or.inr rfl) (pe_op op_sub (pv 4) pe_int))))))))
    (pss_one (ps_ret (pv 3))))))), ?_⟩
    obtain ⟨ms, hms, _, hms2⟩ := cut_map ns none (some 2)
    have hms3 := hms2 rfl 2 rfl
    subst hms3
    obtain ⟨hu0, hu1⟩ := lrUps_ok ns (by omega)
    refine q_asg (v := .int (lrUps ns)) (ev_is (ev_min2 ev_c (ev_max2 (ev_op (ev_len (ev_var rfl) hS) ev_c (rv_I (C := CDiv) ⟨by decide, by decide⟩)) (ev_op (ev_op (ev_mixed (ev_sumN (el_is (el_sl (ev_var rfl) eo_none (eo_some ev_c) hS) hms)) (ev_len (ev_var rfl) hS)) ev_c (rv_I (C := CDiv) ⟨by decide, by decide⟩)) ev_c (rv_I (C := fun _ j => 0 < j) (by decide))))) (by rw [List.length_map]; rfl)) fun H1 x1 => ?_
    obtain ⟨ups, hups⟩ := Int.eq_ofNat_of_zero_le hu0
    have hupsT : (lrUps ns).toNat = ups := by omega
    have hrun : lawRow ns c = (lrRun c ns ups (2 * ups)).1 := by unfold lawRow; rw [hupsT]
    rw [hrun] at q
    rw [hups] at hu1 ⊢
    refine q_asg (v := .str (rowS [])) (ev_is ev_c (by rw [lit_e])) fun H2 x2 => ?_
    refine q_asg (v := .int 0) ev_c fun H3 x3 => ?_
    have hS3 := ex_l ((x1.trans x2).trans x3) hS
    refine q_forR1 (n := 2 * (ups : Int)) (ea_cons (by walk_at "ev") ea_nil) (by omega) (fun i σ H' => ∃ (s5 s6 : Option V), σ = [some (.ref a), some (ceilV c), some (.int (ups : Int)), some (.str (rowS (lrRun c ns ups i).1)), some (.int ((lrRun c ns ups i).2 : Int)), s5, s6] ∧ Ex H3 H')
      (fun H4 x4 => ⟨_, _, rfl, x4⟩) (fun i σ H4 hi hP => ?_) (fun σ H4 hP => ?_)
    · obtain ⟨s5, s6, rfl, x4⟩ := hP
      have hS4 := ex_l x4 hS3
      obtain ⟨hul, hb⟩ := lr_beg (ns := ns) hc i (show i ≤ 2 * ups by omega)
      have hnx : lrRun c ns ups (i + 1) = lrStep c ns ups i (lrRun c ns ups i) := rfl
      rw [hnx]
      generalize lrRun c ns ups i = sx at hul hb
      obtain ⟨u, h⟩ := sx
      dsimp only at hul hb ⊢
      refine q_asg (v := .int (lrMark ns i)) ?_ fun H5 x5 => ?_
      · refine ev_is (ev_mixed (ev_if (b := !decide (ns = [])) (v := .int (if (!decide (ns = [])) = true then ns.getD (i % ns.length) 0 else 0)) (et_test (ev_is (ev_opL (ev_var rfl) (el_lst ea_nil (Nat.zero_le _)) fun p H6 hp e6 => rv_neD (d := .list (ns.map .int)) (e := .list []) (fun H7 e7 => .lst (ex_l (e6.trans e7) hS4) (dp_ints H7 ns)) (fun H7 e7 => .lst (sq_of (e7 p _ hp)) .nil) (shaped_ints ns) (shaped_ints [])) (by rw [eqv_nil]))) (fun hb2 => ?_) (fun hb2 => ?_)) (ev_var rfl)) rfl
        · have hne : ns ≠ [] := by simpa using hb2
          have hl0 : 0 < ns.length := List.length_pos_iff.mpr hne
          have hml : i % ns.length < ns.length := Nat.mod_lt _ hl0
          refine ev_is (ev_op (ev_var rfl) (ev_op (ev_var rfl) (ev_len (ev_var rfl) hS4) (rv_I (C := fun _ j => 0 < j) (by rw [List.length_map]; omega))) (rv_ixL hS4 (at_int (i := i % ns.length) (z := ns.getD (i % ns.length) 0) (by rw [List.length_map]; exact Int.ofNat_mod_ofNat i ns.length) (by rw [List.getD, List.getElem?_eq_getElem hml]; rfl)))) (by rw [if_pos hb2])
        · exact ev_is ev_c (by rw [if_neg (by rw [hb2]; decide)])
      obtain ⟨b1, b2, b3, b4⟩ := hb
      have hlen : (rowS u).length ≤ 200 := by rw [rowS_len]; omega
      refine s_if (b := lrGo c ns ups i (u, h)) ?_ (fun hg H6 x6 => ?_) (fun hg H6 x6 => ?_)
      · refine et_is (et_or (a := decide (V.int (h : Int) = V.int 0)) (et_test (ev_op (ev_var rfl) ev_c (rv_eq rfl))) (fun _ => et_and (et_test (ev_op (ev_countU (ev_var rfl)) (ev_var rfl) rv_I0)) (fun _ => et_and (a := !decide (V.int (h : Int) = ceilV c)) (et_test (ev_op (ev_var rfl) (ev_var rfl) (rv_ne (by cases c <;> rfl)))) (fun _ => et_test (ev_op (by walk_at "ev") ev_c rv_I0))))) ?_
        unfold lrGo
        congr 1
        · exact decide_eq_decide.mpr ⟨fun z => by injection z with z; show h = 0; omega, fun (z : h = 0) => by rw [z]; rfl⟩
        · congr 1
          · exact decide_eq_decide.mpr ⟨fun z => by show u.count true < ups; omega, fun (z : u.count true < ups) => by omega⟩
          · congr 1
            by_cases z : V.int (h : Int) = ceilV c
            · rw [decide_eq_true z, decide_eq_false (fun y => y z)]
              rfl
            · rw [decide_eq_false z, decide_eq_true z]
              rfl
      · refine q_asg (ev_rowU (ev_var rfl) ev_c (by omega)) fun H7 x7 => ?_
        refine s_asg (v := .int ((h + 1 : Nat) : Int)) (ev_op (ev_var rfl) ev_c rv_I0) fun H8 x8 => ?_
        refine ⟨some (.int (i : Int)), some (.int (lrMark ns i)), ?_, (x4.trans x5).trans (x6.trans (x7.trans x8))⟩
        unfold lrStep
        rw [if_pos hg]
        rfl
      · have h0 : 0 < h := by
          unfold lrGo at hg
          simp only [Bool.or_eq_false_iff, decide_eq_false_iff_not] at hg
          have := hg.1
          omega
        refine q_asg (ev_rowD (ev_var rfl) ev_c (by omega)) fun H7 x7 => ?_
        refine s_asg (v := .int ((h - 1 : Nat) : Int)) (ev_is (ev_op (ev_var rfl) ev_c rv_I0) (by congr 1; omega)) fun H8 x8 => ?_
        refine ⟨some (.int (i : Int)), some (.int (lrMark ns i)), ?_, (x4.trans x5).trans (x6.trans (x7.trans x8))⟩
        unfold lrStep
        rw [if_neg (by rw [hg]; decide)]
        rfl
    · obtain ⟨s5, s6, rfl, x4⟩ := hP
      have e2 : (2 * (ups : Int)).toNat = 2 * ups := by omega
      rw [e2]
      exact s_ret (ev_var rfl) fun H5 x5 => q H5 ((x1.trans x2).trans ((x3.trans x4).trans x5))
end
end Hl
/-! _law_word: the words of the classes that a refusal is of. -/
namespace Hl
open PySem PySem.Spec PyProof.Rows L2 Evl
abbrev s_law_word : Stmt := topS 22
abbrev N_law_word : List Str := ["_law_error", "_law_words", "_law_one", "_law_other", "_law_flags", "_law_word_here", "_law_flag"]
abbrev ps_law_word : List Str := ["_law_error"]
theorem sc_law_word : FnScope N_law_word ps_law_word (defScope s_law_word) := ⟨rfl, rfl, rfl, by decide +kernel, rfl, by decide +kernel, by decide +kernel⟩

def errWord : List Str := ["row", "count", "rank", "place", "tree", "pairs", "turn", "text"]
def wordOf (i : Nat) : Str := errWord.getD i ""
def spWord (K : PySem.W.Frag) : Sp := fun vs H Q _ => ∃ v : V, vs = [v] ∧ ((∃ i : Nat, i < 7 ∧ KeptAt K i v H ∧ RetV (.str (wordOf i)) H Q) ∨ (v = .non ∧ RetV (.str "") H Q))
section
variable {P : Program} {w : World} {K : PySem.W.Frag} {mg : Str → Option Value} {base : Heap} {f : Addr} {fd : FuncData}
theorem ev_word {σ : L2.St} {H : Hp} {ta : TE} {v : V} {i : Nat} {E : XK} (hi : i < 7) (hv : KeptAt K i v H) (h1 : Ev ta σ H v) : Ev (tCall (spWord K) [] E (tCons ta tNil)) σ H (.str (wordOf i)) :=
  ev_call (ea_cons h1 ea_nil) fun H1 e Q q _ => ⟨v, rfl, .inl ⟨i, hi, hv.mono e, q⟩⟩
theorem ev_wordN {σ : L2.St} {H : Hp} {ta : TE} {E : XK} (h1 : Ev ta σ H .non) : Ev (tCall (spWord K) [] E (tCons ta tNil)) σ H (.str "") :=
  ev_call (ea_cons h1 ea_nil) fun H1 e Q q _ => ⟨_, rfl, .inr ⟨rfl, q⟩⟩
theorem ok_law_word (F : FnP K "_law_word" s_law_word [] f fd) (B : Blt mg) (R : ErrOk K) (x_NoRow : Exc K mg "NoRow" (errAd K 0)) (x_NoCount : Exc K mg "NoCount" (errAd K 1)) (x_NoRank : Exc K mg "NoRank" (errAd K 2)) (x_NoPlace : Exc K mg "NoPlace" (errAd K 3))
    (x_NoTree : Exc K mg "NoTree" (errAd K 4)) (x_NoPairs : Exc K mg "NoPairs" (errAd K 5)) (x_NoTurn : Exc K mg "NoTurn" (errAd K 6)) (x_NoText : ExcG mg "NoText" (errAd K 7)) : FnOk P w K mg base (L2.CX P w) 1 f fd ps_law_word (spWord K) := by
  refine F.ok sc_law_word (fun vs H Q E h => ?_) (fun cdv A outer s H vs Q E hr h => ?_)
  · obtain ⟨v, rfl, _⟩ := h
    rfl
  · obtain ⟨v, rfl, h⟩ := h
    refine ⟨_, (pss_cons (ps_set (i := 1) sc_law_word.nd rfl (by first | exact Or.inl rfl | exact Or.inr rfl) (pe_lst (pa_cons pe_str (pa_cons pe_str (pa_cons pe_str (pa_cons pe_str (pa_cons pe_str (pa_cons pe_str (pa_cons pe_str (pa_cons pe_str pa_nil))))))))))
    (pss_cons (ps_set (i := 2) sc_law_word.nd rfl (by first | exact Or.inl rfl | exact Or.inr rfl) (pe_lst (pa_cons (pe_callB call_isX (by rfl) B.isinstance (by first | rfl | decide +kernel) (pa_cons (pv 0) (pa_cons (pe_cls x_NoRow.g) pa_nil))) (pa_cons (pe_callB call_isX (by rfl) B.isinstance (by first | rfl | decide +kernel) (pa_cons (pv 0) (pa_cons (pe_cls x_NoCount.g) pa_nil))) (pa_cons (pe_callB call_isX (by rfl) B.isinstance (by first | rfl | decide +kernel) (pa_cons (pv 0) (pa_cons (pe_cls x_NoRank.g) pa_nil))) (pa_cons (pe_callB call_isX (by rfl) B.isinstance (by first | rfl | decide +kernel) (pa_cons (pv 0) (pa_cons (pe_cls x_NoPlace.g) pa_nil))) pa_nil))))))
    (pss_cons (ps_set (i := 3) sc_law_word.nd rfl (by first | exact Or.inl rfl | exact Or.inr rfl) (pe_lst (pa_cons (pe_callB call_isX (by rfl) B.isinstance (by first | rfl | decide +kernel) (pa_cons (pv 0) (pa_cons (pe_cls x_NoTree.g) pa_nil))) (pa_cons (pe_callB call_isX (by rfl) B.isinstance (by first | rfl | decide +kernel) (pa_cons (pv 0) (pa_cons (pe_cls x_NoPairs.g) pa_nil))) (pa_cons (pe_callB call_isX (by rfl) B.isinstance (by first | rfl | decide +kernel) (pa_cons (pv 0) (pa_cons (pe_cls x_NoTurn.g) pa_nil))) pa_nil)))))
    (pss_cons (ps_set (i := 4) sc_law_word.nd rfl (by first | exact Or.inl rfl | exact Or.inr rfl) (pe_op op_cat (pe_op op_cat (pv 2) (pv 3)) (pe_lst (pa_cons (pe_callB call_isX (by rfl) B.isinstance (by first | rfl | decide +kernel) (pa_cons (pv 0) (pa_cons (pe_cls x_NoText.g) pa_nil))) pa_nil))))
    (pss_one (ps_ret (pe_join pe_str (pe_lc (own := [("_law_word_here", 5), ("_law_flag", 6)]) (g := gTup K 2 (gCons (gName 5) (gCons (gName 6) gNil))) rfl sc_law_word.nd (pi_zip (by rfl) B.zip (pa_cons (pv 1) (pa_cons (pv 4) pa_nil))) (blkOk_by (own := [("_law_word_here", 5), ("_law_flag", 6)]) (N := N_law_word) (sc := defScope s_law_word) (by decide +kernel)) (fun _ _ _ _ _ => (pg_tup rfl (pgs_cons (pg_name (i := 5) sc_law_word.nd rfl (by first | exact Or.inl rfl | exact Or.inr rfl)) (pgs_cons (pg_name (i := 6) sc_law_word.nd rfl (by first | exact Or.inl rfl | exact Or.inr rfl)) pgs_nil)))) (fun _ _ _ _ _ => (pts_one (pt_val (pv 6)))) (fun _ _ _ _ _ => (pv 5)))))))))), ?_⟩
    -- the flags, the word
    obtain ⟨fl, wd, isx, hone, q⟩ : ∃ (fl : Nat → Bool) (ys : List Str), (∀ j, j < 8 → ∀ {σ : L2.St} {H' : Hp} {ta tb : TE}, Ex H H' → Ev ta σ H' v → Ev tb σ H' (.ref (errAd K j)) → Ev (tCB (rIsX K) (tCons ta (tCons tb tNil))) σ H' (.bl (fl j))) ∧
        (given 8 fl (fun k => V.str (errWord.getD k "")) = ys.map V.str ∧ (ys.map (·.length)).sum + ys.length * (" " : Str).length ≤ 100) ∧ RetV (.str (Txt.join " " ys)) H Q := by
      rcases h with ⟨i, hi, hv, q⟩ | ⟨rfl, q⟩
      · have one : ∀ i, i < 7 → given 8 (fun k => decide (i = k)) (fun k => V.str (errWord.getD k "")) = [wordOf i].map V.str ∧ (wordOf i).length ≤ 10 ∧ Txt.join " " [wordOf i] = wordOf i := by
          intro i hi
          have : i = 0 ∨ i = 1 ∨ i = 2 ∨ i = 3 ∨ i = 4 ∨ i = 5 ∨ i = 6 := by omega
          rcases this with e | e | e | e | e | e | e <;> subst e <;> exact ⟨rfl, by decide +kernel, by decide +kernel⟩
        obtain ⟨o1, o2, o3⟩ := one i hi
        exact ⟨fun k => decide (i = k), [wordOf i], fun j hj {σ H' ta tb} e h1 h2 => ev_isXr R hi hj (hv.mono e) h1 h2, ⟨o1, by show (wordOf i).length + 0 + 1 * 1 ≤ 100; omega⟩, by rw [o3]; exact q⟩
      · exact ⟨fun _ => false, [], fun j hj {σ H' ta tb} e h1 h2 => ev_isXn R hj h1 h2, ⟨rfl, by decide +kernel⟩, by rw [show Txt.join " " [] = "" by decide +kernel]; exact q⟩
    clear h
    refine q_asgL (xs := errWord.map V.str) (el_lst (ea_cons ev_c (ea_cons ev_c (ea_cons ev_c (ea_cons ev_c (ea_cons ev_c (ea_cons ev_c (ea_cons ev_c (ea_cons ev_c ea_nil)))))))) (by show 8 ≤ 100000; decide)) fun p1 H1 n1 e1 h1 => ?_
    refine q_asgL (xs := [.bl (fl 0), .bl (fl 1), .bl (fl 2), .bl (fl 3)]) (el_lst (ea_cons (isx 0 (by decide) e1 (ev_var rfl) ev_c) (ea_cons (isx 1 (by decide) e1 (ev_var rfl) ev_c) (ea_cons (isx 2 (by decide) e1 (ev_var rfl) ev_c) (ea_cons (isx 3 (by decide) e1 (ev_var rfl) ev_c) ea_nil)))) (by show 4 ≤ 100000; decide)) fun p2 H2 n2 e2 h2 => ?_
    refine q_asgL (xs := [.bl (fl 4), .bl (fl 5), .bl (fl 6)]) (el_lst (ea_cons (isx 4 (by decide) (e1.trans e2) (ev_var rfl) ev_c) (ea_cons (isx 5 (by decide) (e1.trans e2) (ev_var rfl) ev_c) (ea_cons (isx 6 (by decide) (e1.trans e2) (ev_var rfl) ev_c) ea_nil))) (by show 3 ≤ 100000; decide)) fun p3 H3 n3 e3 h3 => ?_
    refine q_asgL (xs := (List.range 8).map fun k => V.bl (fl k)) (el_cat (el_catVV (ev_var rfl) (e3 p2 _ h2) (ev_var rfl) h3 (by show 7 ≤ 100000; decide)) (el_lst (ea_cons (isx 7 (by decide) ((e1.trans e2).trans e3) (ev_var rfl) ev_c) ea_nil) (by show 1 ≤ 100000; decide)) (by show 8 ≤ 100000; decide)) fun p4 H4 n4 e4 h4 => ?_
    have hw4 := (e2.trans (e3.trans e4)) p1 _ h1
    refine s_ret (ev_joinL (ys := wd) ev_c (el_is (el_lc2 (K := K) fl (fun k => V.str (errWord.getD k "")) (ei_zip (n := 8) (ev_var rfl) (sq_of hw4) (ev_var rfl) (sq_of h4) rfl) (by decide) (fun x y => rfl) fun k H6 x y hk e6 ha hb => ?_) hone.1) (Nat.le_trans hone.2 (by decide))) fun H5 e5 => q H5 ((e1.trans e2).trans ((e3.trans e4).trans e5))
    have hk2 : k = 0 ∨ k = 1 ∨ k = 2 ∨ k = 3 ∨ k = 4 ∨ k = 5 ∨ k = 6 ∨ k = 7 := by omega
    have hx : x = V.str (errWord.getD k "") := by rcases hk2 with e | e | e | e | e | e | e | e <;> subst e <;> exact (Option.some.inj ha).symm
    have hy : y = V.bl (fl k) := by rcases hk2 with e | e | e | e | e | e | e | e <;> subst e <;> exact (Option.some.inj hb).symm
    subst hx hy
    exact ⟨et_B (ev_var rfl), fun _ => ev_var rfl⟩
end
end Hl
/-! joins.py: joined, lifted, mirrored. -/
namespace Hl
open PySem PySem.Spec PyProof.Rows L2 Evl



def liftR (n : Nat) (w : List Bool) : List Bool := (List.replicate n true ++ w) ++ List.replicate n false
def mirR (w : List Bool) : List Bool := w.reverse.map (!·)
def spJoined (K : PySem.W.Frag) (CW : Addr) : Sp := fun vs H Q E => ∃ (a : Addr) (zs : List Str), vs = [.ref a] ∧ SqL K H a (zs.map V.str) ∧ zs.length ≤ 400 ∧ (∀ z ∈ zs, z.length ≤ 400) ∧
  (∀ ws : List (List Bool), zs = ws.map rowS → (∀ w ∈ ws, hillB none w = true) → RetV (.str (rowS ws.flatten)) H Q) ∧ ((∃ z ∈ zs, hillS none z = false) → rx CW H E)
def spLifted (CN CW : Addr) : Sp := fun vs H Q E => ∃ (z : Str) (y : V), vs = [.str z, y] ∧ z.length ≤ 400 ∧ Plain y ∧ (hillS none z = false → rx CW H E) ∧
  ∀ w, z = rowS w → hillB none w = true → (isNum y 0 200 = false → rx CN H E) ∧ ∀ n : Nat, y = .int n → n ≤ 200 → RetV (.str (rowS (liftR n w))) H Q
def spMirrored (CW : Addr) : Sp := fun vs H Q E => ∃ z : Str, vs = [.str z] ∧ z.length ≤ 20000 ∧ (hillS none z = false → rx CW H E) ∧ ∀ w, z = rowS w → hillB none w = true → RetV (.str (rowS (mirR w))) H Q
theorem joinL_flat : ∀ l : List (List Nat), TL.joinL [] l = l.flatten
  | [] => rfl
  | [a] => by
    show a = [a].flatten
    simp
  | a :: b :: l => by
    have ih := joinL_flat (b :: l)
    show a ++ ([] ++ TL.joinL [] (b :: l)) = _
    rw [ih]
    rfl
theorem join_rows (ws : List (List Bool)) : Txt.join "" (ws.map rowS) = rowS ws.flatten := by
  have e1 : ("" : Str) = SX.S [] := lit_e
  have e2 : ws.map rowS = (ws.map fun w => w.map sg).map SX.S := by rw [List.map_map]; rfl
  rw [e1, e2, SX.join_S, joinL_flat]
  unfold rowS
  congr 1
  induction ws with
  | nil => rfl
  | cons w ws ih => rw [List.map_cons, List.flatten_cons, ih (by rw [List.map_map]; rfl), List.flatten_cons, List.map_append]
theorem map_rowS_inj : ∀ {a b : List (List Bool)}, a.map rowS = b.map rowS → a = b
  | [], [], _ => rfl
  | [], _ :: _, h => by cases h
  | _ :: _, [], h => by cases h
  | x :: a, y :: b, h => by
    rw [List.map_cons, List.map_cons] at h
    injection h with h1 h2
    rw [rowS_inj h1, map_rowS_inj h2]
theorem sum_le {α : Type} {f : α → Nat} {m : Nat} : ∀ {l : List α}, (∀ x ∈ l, f x ≤ m) → (l.map f).sum ≤ l.length * m
  | [], _ => by simp
  | x :: l, h => by
    have h1 := h x List.mem_cons_self
    have h2 := sum_le fun y hy => h y (List.mem_cons_of_mem _ hy)
    rw [List.map_cons, List.sum_cons, List.length_cons, Nat.add_mul]
    omega
/-- texts that are all hill rows -/
theorem all_rows : ∀ {zs : List Str}, (∀ z ∈ zs, hillS none z = true) → ∃ ws : List (List Bool), zs = ws.map rowS ∧ ∀ w ∈ ws, hillB none w = true
  | [], _ => ⟨[], rfl, fun _ h => nomatch h⟩
  | z :: zs, h => by
    obtain ⟨w, e1, h1⟩ := hillS_iff.mp (h z List.mem_cons_self)
    obtain ⟨ws, e2, h2⟩ := all_rows fun y hy => h y (List.mem_cons_of_mem _ hy)
    refine ⟨w :: ws, by rw [e1, e2]; rfl, fun v hv => ?_⟩
    rcases List.mem_cons.mp hv with e | hv
    · rw [e]
      exact h1
    · exact h2 v hv
section
variable {P : Program} {w : World} {K : PySem.W.Frag} {mg : Str → Option Value} {base : Heap} {f : Addr} {fd : FuncData}
/-! calls -/
section
variable {σ : L2.St} {H : Hp} {ta tb : TE} {CN CW : Addr} {E : XK}
theorem ev_joined {p : Addr} {ws : List (List Bool)} (hl : ws.length ≤ 400) (hw : ∀ w ∈ ws, w.length ≤ 400 ∧ hillB none w = true) (h1 : Ev ta σ H (.ref p)) (hS : SqL K H p ((ws.map rowS).map V.str)) : Ev (tCall (spJoined K CW) [] E (tCons ta tNil)) σ H (.str (rowS ws.flatten)) :=
  ev_call (ea_cons h1 ea_nil) fun H1 e Q q E => ⟨p, _, rfl, ex_l e hS, by rw [List.length_map]; exact hl, fun z hz => (by
    obtain ⟨w, hm, rfl⟩ := List.mem_map.mp hz
    rw [rowS_len]
    exact (hw w hm).1), fun ws' e2 _ => (by
    have : ws = ws' := map_rowS_inj e2
    rw [← this]
    exact q), fun ⟨z, hz, hb⟩ => by
    obtain ⟨w, hm, rfl⟩ := List.mem_map.mp hz
    rw [hillS_row, (hw w hm).2] at hb
    cases hb⟩
theorem ev_joinedN {ws : List (List Bool)} (hl : ws.length ≤ 400) (hw : ∀ w ∈ ws, w.length ≤ 400 ∧ hillB none w = true) (h1 : EvL ta σ H ((ws.map rowS).map V.str)) : Ev (tCall (spJoined K CW) [] E (tCons ta tNil)) σ H (.str (rowS ws.flatten)) := fun H1 e Q q =>
  h1 H1 e _ fun p H2 _ e2 hp => ev_joined (K := K) (ta := tC (.ref p)) (σ := σ) (H := H2) (E := E) hl hw ev_c (sq_of hp) H2 (Ex.refl _) Q fun H3 e3 => q H3 (e2.trans e3)
theorem ev_lifted {w : List Bool} {n : Nat} (hl : w.length ≤ 400) (hw : hillB none w = true) (hn : n ≤ 200) (h1 : Ev ta σ H (.str (rowS w))) (h2 : Ev tb σ H (.int (n : Int))) : Ev (tCall (spLifted CN CW) [] E (tCons ta (tCons tb tNil))) σ H (.str (rowS (liftR n w))) :=
  ev_call (ea_cons h1 (ea_cons h2 ea_nil)) fun H1 e Q q E => ⟨_, _, rfl, by rw [rowS_len]; exact hl, .int _, fun z => (by rw [hillS_row, hw] at z; cases z), fun w' ew _ => by
    rw [← rowS_inj ew]
    refine ⟨fun z => ?_, fun n' en _ => by rw [← nat_inj' en]; exact q⟩
    rw [num200 hn] at z
    cases z⟩
theorem ev_lifted_d {w : List Bool} (hl : w.length ≤ 400) (hw : hillB none w = true) (h1 : Ev ta σ H (.str (rowS w))) : Ev (tCall (spLifted CN CW) [.int 1] E (tCons ta tNil)) σ H (.str (rowS (liftR 1 w))) := fun H1 e Q q =>
  h1 H1 e _ fun H2 e2 => ev_lifted (n := 1) (ta := tC (.str (rowS w))) (tb := tC (.int 1)) (σ := σ) (H := H2) (E := E) hl hw (by decide) ev_c ev_c H2 (Ex.refl _) Q fun H3 e3 => q H3 (e2.trans e3)
theorem ev_mirrored {w : List Bool} (hl : w.length ≤ 20000) (hw : hillB none w = true) (h1 : Ev ta σ H (.str (rowS w))) : Ev (tCall (spMirrored CW) [] E (tCons ta tNil)) σ H (.str (rowS (mirR w))) :=
  ev_call (ea_cons h1 ea_nil) fun H1 e Q q E => ⟨_, rfl, by rw [rowS_len]; exact hl, fun z => (by rw [hillS_row, hw] at z; cases z), fun w' ew _ => by rw [← rowS_inj ew]; exact q⟩
theorem rx_joined {p : Addr} {zs : List Str} (hl : zs.length ≤ 400) (hz : ∀ z ∈ zs, z.length ≤ 400) (hb : ∃ z ∈ zs, hillS none z = false) (h1 : Ev ta σ H (.ref p)) (hS : SqL K H p (zs.map V.str)) (hE : rx CW H E) : Rx (tCall (spJoined K CW) [] E (tCons ta tNil)) σ H :=
  rx_call (ea_cons h1 ea_nil) fun H1 e Q => ⟨p, zs, rfl, ex_l e hS, hl, hz, fun ws ew hw => (by
    obtain ⟨z, hm, hf⟩ := hb
    rw [ew] at hm
    obtain ⟨w, hm2, rfl⟩ := List.mem_map.mp hm
    rw [hillS_row, hw w hm2] at hf
    cases hf), fun _ => hE.mono e⟩
theorem rx_liftedW {z : Str} {y : V} (hl : z.length ≤ 400) (hy : Plain y) (hb : hillS none z = false) (h1 : Ev ta σ H (.str z)) (h2 : Ev tb σ H y) (hE : rx CW H E) : Rx (tCall (spLifted CN CW) [] E (tCons ta (tCons tb tNil))) σ H :=
  rx_call (ea_cons h1 (ea_cons h2 ea_nil)) fun H1 e Q => ⟨z, y, rfl, hl, hy, fun _ => hE.mono e, fun w ew hw => by
    rw [ew, hillS_row, hw] at hb
    cases hb⟩
theorem rx_liftedN {w : List Bool} {y : V} (hl : w.length ≤ 400) (hy : Plain y) (hw : hillB none w = true) (hb : isNum y 0 200 = false) (h1 : Ev ta σ H (.str (rowS w))) (h2 : Ev tb σ H y) (hE : rx CN H E) : Rx (tCall (spLifted CN CW) [] E (tCons ta (tCons tb tNil))) σ H :=
  rx_call (ea_cons h1 (ea_cons h2 ea_nil)) fun H1 e Q => ⟨_, y, rfl, by rw [rowS_len]; exact hl, hy, fun z => (by rw [hillS_row, hw] at z; cases z), fun w' ew _ => ⟨fun _ => hE.mono e, fun n en hn => by
    rw [en, num200 hn] at hb
    cases hb⟩⟩
theorem rx_mirrored {z : Str} (hl : z.length ≤ 20000) (hb : hillS none z = false) (h1 : Ev ta σ H (.str z)) (hE : rx CW H E) : Rx (tCall (spMirrored CW) [] E (tCons ta tNil)) σ H :=
  rx_call (ea_cons h1 ea_nil) fun H1 e Q => ⟨z, rfl, hl, fun _ => hE.mono e, fun w ew hw => by
    rw [ew, hillS_row, hw] at hb
    cases hb⟩
end
end
end Hl
/-! trees.py: pairs, cut, parts. -/
namespace Hl
open PySem PySem.Spec PyProof.Rows L2 Evl



def spPairs (CW : Addr) : Sp := fun vs H Q E => ∃ z : Str, vs = [.str z] ∧ z.length ≤ 20000 ∧ (hillS none z = false → rx CW H E) ∧ ∀ w, z = rowS w → hillB none w = true → RetL ((pairsF w).map V.int) H Q
def RetU (xs : List V) (H : Hp) (Q : VK) : Prop := ∀ p H2, H p = none → Ex H H2 → H2 p = some (.tup xs) → Q (.ref p) H2
/-- the first hill and what is behind it -/
def hillOf (u v : List Bool) : List Bool := true :: (u ++ false :: v)
def spCut (CW : Addr) : Sp := fun vs H Q E => ∃ z : Str, vs = [.str z] ∧ z.length ≤ 20000 ∧ (hillS none z = false ∨ z = rowS [] → rx CW H E) ∧ ∀ u v, z = rowS (hillOf u v) → hillB none u = true → hillB none v = true → RetU [.str (rowS u), .str (rowS v)] H Q
def spParts (CW : Addr) : Sp := fun vs H Q E => ∃ z : Str, vs = [.str z] ∧ z.length ≤ 20000 ∧ (hillS none z = false → rx CW H E) ∧ ∀ us : List (List Bool), z = rowS ((us.map fun u => hillOf u []).flatten) → (∀ u ∈ us, hillB none u = true) → RetL ((us.map fun u => rowS (hillOf u [])).map V.str) H Q
theorem hillOf_cat (u v : List Bool) : hillOf u v = hillOf u [] ++ v := by simp [hillOf]
theorem hillOf_hill {u v : List Bool} (hu : hillB none u = true) (hv : hillB none v = true) : hillB none (hillOf u v) = true := by
  rw [hill_ok] at *
  show (!over none 1 && okF none 1 (u ++ false :: v)) = true
  have : ∀ {x : List Bool} {h : Nat} (y : List Bool), okF none h x = true → okF none (h + 1) (x ++ y) = okF none 1 y := by
    intro x
    induction x with
    | nil =>
      intro h y ok
      have : h = 0 := of_decide_eq_true ok
      subst this
      rfl
    | cons b x ih =>
      intro h y ok
      cases b with
      | true => exact ih y (show okF none (h + 1) x = true from (by have ok2 : (!over none (h + 1) && okF none (h + 1) x) = true := ok; simpa [over] using ok2))
      | false =>
        have ok2 : (decide (0 < h) && okF none (h - 1) x) = true := ok
        rw [Bool.and_eq_true, decide_eq_true_eq] at ok2
        have := ih y ok2.2
        show (decide (0 < h + 1) && okF none (h + 1 - 1) (x ++ y)) = _
        rw [decide_eq_true (by omega), Bool.true_and, Nat.add_sub_cancel]
        have e : h - 1 + 1 = h := by omega
        rw [e] at this
        exact this
  rw [this (h := 0) (false :: v) hu]
  show (!over none 1 && (decide (0 < 1) && okF none (1 - 1) v)) = true
  rw [show (1 - 1 : Nat) = 0 from rfl, hv]
  rfl
theorem hillOf_mt {u v : List Bool} (hu : hillB none u = true) : Mt (hillOf u v) 0 (u.length + 1) := by
  obtain ⟨u0, u1, _⟩ := hillB_iff.mp hu
  have htk : ∀ k, k ≤ u.length → (hillOf u v).take (k + 1) = true :: u.take k := fun k hk => by
    show true :: (u ++ false :: v).take k = _
    rw [List.take_append_of_le_length hk]
  refine ⟨by omega, by simp [hillOf], ?_, fun k h1 h2 => ?_⟩
  · have : (hillOf u v).take (u.length + 1 + 1) = true :: (u ++ [false]) := by
      show true :: (u ++ false :: v).take (u.length + 1) = _
      rw [List.take_append, List.take_of_length_le (by omega), Nat.add_sub_cancel_left]
      rfl
    rw [this]
    show st true + hgt (u ++ [false]) = 0
    rw [hgt_app, u0, hgt_one]
    rfl
  · obtain ⟨k, rfl⟩ : ∃ j, k = j + 1 := ⟨k - 1, by omega⟩
    rw [htk k (by omega)]
    have := u1 k (by omega)
    show (0 : Int) < st true + hgt (u.take k)
    have : st true = 1 := rfl
    omega
/-- a hill row that is not empty has a first hill -/
theorem hill_split {w : List Bool} (h : hillB none w = true) (hw : w ≠ []) : ∃ u v, w = hillOf u v ∧ hillB none u = true ∧ hillB none v = true := by
  obtain ⟨h0, h1, _⟩ := hillB_iff.mp h
  obtain ⟨b, x, rfl⟩ := List.exists_cons_of_ne_nil hw
  have hb : b = true := by
    have := h1 1 (by simp)
    have e : hgt ((b :: x).take 1) = st b := by show hgt [b] = _; exact hgt_one b
    rw [e] at this
    cases b with
    | true => rfl
    | false => simp [st] at this
  subst hb
  obtain ⟨j, hm⟩ := mt_up h (i := 0) rfl
  have hm2 := hm.down
  obtain ⟨m1, m2, m3, m4⟩ := hm
  obtain ⟨n, rfl⟩ : ∃ n, j = n + 1 := ⟨j - 1, by omega⟩
  have hxl : n < x.length := by simpa using m2
  have hn : x[n]? = some false := by simpa using hm2
  refine ⟨x.take n, x.drop (n + 1), ?_, ?_, ?_⟩
  · unfold hillOf
    rw [← drop_cons hn, List.take_append_drop]
  · refine hillB_iff.mpr ⟨?_, fun k hk => ?_, fun _ z => nomatch z⟩
    · have e1 : hgt ((true :: x).take (n + 1 + 1)) = st true + hgt (x.take (n + 1)) := rfl
      rw [e1, hgt_step hn] at m3
      have e2 : hgt ((true :: x).take 0) = 0 := rfl
      rw [e2] at m3
      simp [st] at m3
      omega
    · rw [List.length_take, Nat.min_eq_left (by omega)] at hk
      rw [List.take_take, Nat.min_eq_left hk]
      by_cases z : k = 0
      · subst z
        exact Int.le_refl _
      · have := m4 (k + 1) (by omega) (by omega)
        have e1 : hgt ((true :: x).take (k + 1)) = st true + hgt (x.take k) := rfl
        rw [e1] at this
        have e2 : hgt ((true :: x).take 0) = 0 := rfl
        rw [e2] at this
        have : st true = 1 := rfl
        omega
  · have hz : hgt ((true :: x).take (n + 2)) = 0 := m3
    have hcut : ∀ k, k ≤ (x.drop (n + 1)).length → hgt ((x.drop (n + 1)).take k) = hgt ((true :: x).take (n + 2 + k)) := fun k hk => by
      have : (true :: x).take (n + 2 + k) = (true :: x).take (n + 2) ++ (x.drop (n + 1)).take k := by
        rw [List.take_add]
        rfl
      rw [this, hgt_app, hz, Int.zero_add]
    have hlen : (x.drop (n + 1)).length = x.length - (n + 1) := List.length_drop
    refine hillB_iff.mpr ⟨?_, fun k hk => ?_, fun _ z => nomatch z⟩
    · have := hcut _ (Nat.le_refl _)
      rw [List.take_length, List.take_of_length_le (by simp; omega), h0] at this
      exact this
    · rw [hcut k hk]
      exact h1 _ (by simp; omega)
/-- a hill row is hills beside one another -/
theorem hill_parts : ∀ (n : Nat) (w : List Bool), w.length ≤ n → hillB none w = true → ∃ us : List (List Bool), w = (us.map fun u => hillOf u []).flatten ∧ ∀ u ∈ us, hillB none u = true
  | 0, w, hl, _ => ⟨[], by
    have : w = [] := List.eq_nil_of_length_eq_zero (by omega)
    subst this
    rfl, fun _ h => nomatch h⟩
  | n + 1, w, hl, h => by
    by_cases hw : w = []
    · subst hw
      exact ⟨[], rfl, fun _ h => nomatch h⟩
    · obtain ⟨u, v, rfl, hu, hv⟩ := hill_split h hw
      obtain ⟨us, e, hus⟩ := hill_parts n v (by simp [hillOf] at hl; omega) hv
      refine ⟨u :: us, ?_, fun x hx => ?_⟩
      · rw [List.map_cons, List.flatten_cons, ← e]
        exact hillOf_cat u v
      · rcases List.mem_cons.mp hx with e | hx
        · rw [e]
          exact hu
        · exact hus x hx
theorem split_inj {u v u' v' : List Bool} (hu : hillB none u = true) (hu' : hillB none u' = true) (e : hillOf u v = hillOf u' v') : u = u' ∧ v = v' := by
  have m1 := hillOf_mt (v := v) hu
  have m2 := hillOf_mt (v := v') hu'
  rw [← e] at m2
  have hlen := m1.right m2
  have e4 : u ++ false :: v = u' ++ false :: v' := by
    unfold hillOf at e
    injection e
  obtain ⟨e5, e6⟩ := List.append_inj e4 (by omega)
  injection e6 with _ e7
  exact ⟨e5, e7⟩
theorem parts_inj : ∀ {us vs : List (List Bool)}, (∀ u ∈ us, hillB none u = true) → (∀ u ∈ vs, hillB none u = true) → (us.map fun u => hillOf u []).flatten = (vs.map fun u => hillOf u []).flatten → us = vs
  | [], [], _, _, _ => rfl
  | [], v :: vs, _, _, e => by
    rw [List.map_cons, List.flatten_cons] at e
    cases e
  | u :: us, [], _, _, e => by
    rw [List.map_cons, List.flatten_cons] at e
    cases e
  | u :: us, v :: vs, h1, h2, e => by
    rw [List.map_cons, List.flatten_cons, List.map_cons, List.flatten_cons, ← hillOf_cat, ← hillOf_cat] at e
    obtain ⟨e1, e2⟩ := split_inj (h1 u List.mem_cons_self) (h2 v List.mem_cons_self) e
    rw [e1, parts_inj (fun x hx => h1 x (List.mem_cons_of_mem _ hx)) (fun x hx => h2 x (List.mem_cons_of_mem _ hx)) e2]
section
variable {P : Program} {w : World} {K : PySem.W.Frag} {mg : Str → Option Value} {base : Heap} {f : Addr} {fd : FuncData}
theorem q_pop {σ : L2.St} {H : Hp} {D : Ends} {tz : TS} {ta : TE} {l : Addr} {xs : List V} {y : V} {i : Nat} (hl : H l = some (.lst xs)) (hy : xs[xs.length - 1]? = some y) (ha : Ev ta σ H (.ref l)) (k : ∀ H1, Ex H H1 → tz D (σ.set i (some y)) (upd H1 l (.lst xs.dropLast))) :
    tSeq (tAsg (tBM0 K "list" rPop ta) (gName i)) tz D σ H := ha H (Ex.refl H) _ fun H1 e => ⟨Or.inl ⟨rfl, xs, sq_of (e l _ hl)⟩, l, xs, y, rfl, rfl, e l _ hl, hy, k H1 e⟩
theorem el_pairs {σ : L2.St} {H : Hp} {ta : TE} {w : List Bool} {CW : Addr} {E : XK} (hl : w.length ≤ 20000) (hw : hillB none w = true) (h1 : Ev ta σ H (.str (rowS w))) : EvL (tCall (spPairs CW) [] E (tCons ta tNil)) σ H ((pairsF w).map V.int) :=
  el_call (ea_cons h1 ea_nil) fun H1 _ Q q E => ⟨_, rfl, by rw [rowS_len]; exact hl, fun z => (by rw [hillS_row, hw] at z; cases z), fun w' ew _ => by rw [← rowS_inj ew]; exact q⟩
theorem eu_cut {σ : L2.St} {H : Hp} {ta : TE} {u v : List Bool} {CW : Addr} {E : XK} (hl : (hillOf u v).length ≤ 20000) (hu : hillB none u = true) (hv : hillB none v = true) (h1 : Ev ta σ H (.str (rowS (hillOf u v)))) : EvU (tCall (spCut CW) [] E (tCons ta tNil)) σ H [.str (rowS u), .str (rowS v)] := fun H1 e Q q =>
  h1 H1 e _ fun H2 e2 => ⟨_, rfl, by rw [rowS_len]; exact hl, fun z => (by
    rcases z with z | z
    · rw [hillS_row, hillOf_hill hu hv] at z
      cases z
    · cases rowS_inj z), fun u' v' ew hu' hv' => by
    have e3 := rowS_inj ew
    have m1 := hillOf_mt (v := v) hu
    have m2 := hillOf_mt (v := v') hu'
    rw [← e3] at m2
    have hlen := m1.right m2
    have e4 : u ++ false :: v = u' ++ false :: v' := by
      unfold hillOf at e3
      injection e3
    have hlen2 : u.length = u'.length := by omega
    obtain ⟨e5, e6⟩ := List.append_inj e4 hlen2
    injection e6 with _ e7
    subst e5 e7
    exact fun p H3 np e3 hp => q p H3 (fresh_back e2 np) (e2.trans e3) hp⟩
theorem el_parts {σ : L2.St} {H : Hp} {ta : TE} {us : List (List Bool)} {CW : Addr} {E : XK} (hl : ((us.map fun u => hillOf u []).flatten).length ≤ 20000) (hu : ∀ u ∈ us, hillB none u = true) (h1 : Ev ta σ H (.str (rowS ((us.map fun u => hillOf u []).flatten)))) : EvL (tCall (spParts CW) [] E (tCons ta tNil)) σ H ((us.map fun u => rowS (hillOf u [])).map V.str) :=
  el_call (ea_cons h1 ea_nil) fun H1 _ Q q E => ⟨_, rfl, by rw [rowS_len]; exact hl, fun z => (by
    rw [hillS_row, hill_flat fun x hx => by
      obtain ⟨y, hy, rfl⟩ := List.mem_map.mp hx
      exact hillOf_hill (hu y hy) (hill_nil none)] at z
    cases z), fun us' ew hu' => by
    have e3 := rowS_inj ew
    have : us = us' := parts_inj hu hu' e3
    rw [← this]
    exact q⟩
theorem rx_cut {σ : L2.St} {H : Hp} {ta : TE} {z : Str} {CW : Addr} {E : XK} (hl : z.length ≤ 20000) (hb : hillS none z = false ∨ z = rowS []) (h1 : Ev ta σ H (.str z)) (hE : rx CW H E) : Rx (tCall (spCut CW) [] E (tCons ta tNil)) σ H :=
  rx_call (ea_cons h1 ea_nil) fun H1 e Q => ⟨z, rfl, hl, fun _ => hE.mono e, fun u v ew hu hv => by
    subst ew
    rcases hb with z | z
    · rw [hillS_row, hillOf_hill hu hv] at z
      cases z
    · cases rowS_inj z⟩
theorem rx_parts {σ : L2.St} {H : Hp} {ta : TE} {z : Str} {CW : Addr} {E : XK} (hl : z.length ≤ 20000) (hb : hillS none z = false) (h1 : Ev ta σ H (.str z)) (hE : rx CW H E) : Rx (tCall (spParts CW) [] E (tCons ta tNil)) σ H :=
  rx_call (ea_cons h1 ea_nil) fun H1 e Q => ⟨z, rfl, hl, fun _ => hE.mono e, fun us ew hu => by
    rw [ew, hillS_row, hill_flat fun x hx => by
      obtain ⟨y, hy, rfl⟩ := List.mem_map.mp hx
      exact hillOf_hill (hu y hy) (hill_nil none)] at hb
    cases hb⟩
end
end Hl
/-! [1, -1][int(sign == "d")]; lists of new tuples. -/
namespace Hl
open PySem PySem.Spec PyProof.Rows L2 Evl
theorem sgS_d (b : Bool) : decide (V.str ⟨#[sg b]⟩ = V.str ("d" : Str)) = !b := by
  cases b
  · exact decide_eq_true (by rw [lit_d]; rfl)
  · exact decide_eq_false (by rw [lit_d]; intro h; injection h with h; injection h with h; cases h)
section
variable {K : PySem.W.Frag} {σ : L2.St} {H H' : Hp} {ta tb te tl : TE} {tt : TT} {wi : TI} {g : TG} {vs : List Nat} {n : Nat} {Y : Nat → Hp → V → Hp → Prop}
theorem ev_step {b : Bool} (h : Ev ta σ H (.str ⟨#[sg b]⟩)) : Ev (tOp (rIxL K) (tLst (tCons (tC (.int 1)) (tCons (tUn (rU fun i => .int (-i)) (tC (.int 1))) tNil))) (tCB (fun xs H Q => (∃ i, xs = [.int i] ∧ Q (.int i) H) ∨ ∃ k, xs = [.bl k] ∧ Q (.int (if k = true then 1 else 0)) H) (tCons (tOp rEq ta (tC (.str "d"))) tNil))) σ H (.int (st b)) :=
  ev_pick (v := .int (st b)) (i := if (!b) = true then 1 else 0) (el_lst (ea_cons ev_c (ea_cons (ev_un ev_c ru_neg) ea_nil)) (by show 2 ≤ 100000; decide)) (ev_intB (ev_is (ev_op h ev_c (rv_eq rfl)) (by rw [sgS_d]))) (by cases b <;> rfl)
theorem s_augS {D : Ends} {i : Nat} {a b : Str} (hx : σ[i]? = some (some (.str a))) (h : Ev te σ H (.str b)) (hl : a.length + b.length ≤ 100000) (k : ∀ H1, Ex H H1 → D.nx (σ.set i (some (.str (a ++ b)))) H1) :
    tAug i te (fun x y H Q => ∃ i j, x = .str i ∧ y = .str j ∧ i.length + j.length ≤ sizeLine ∧ Q (.str (i ++ j)) H) D σ H :=
  ⟨.str a, hx, h H (Ex.refl H) _ fun H1 e => ⟨a, b, rfl, rfl, sz_of hl, k H1 e⟩⟩
/-- new tuples at these places -/
def TupsAt (H : Hp) : List Addr → List (List V) → Prop := Paired fun b xs => H b = some (.tup xs)
theorem TupsAt.mono {as : List Addr} {ds : List (List V)} (e : Ex H H') (h : TupsAt H as ds) : TupsAt H' as ds := paired_mono (fun b _ q => e b _ q) h
theorem TupsAt.upd {m : Addr} {xs ys : List V} (hm : H m = some (.lst xs)) {as : List Addr} {ds : List (List V)} (h : TupsAt H as ds) : TupsAt (upd H m (.lst ys)) as ds :=
  paired_mono (fun b d q => by rw [upd_ne (ne_of q hm (by intro z; cases z))]; exact q) h
/-- a new list of new tuples -/
def ListU (ds : List (List V)) (v : V) (H : Hp) : Prop := ∃ (p : Addr) (as : List Addr), v = .ref p ∧ H p = some (.lst (as.map V.ref)) ∧ TupsAt H as ds
/-- a comprehension whose items are new tuples, none left out -/
theorem eg_lcU (v : Nat → List V) (hi : EvI wi σ H (WalkX n Y)) (hn : n < 50000)
    (hs : ∀ i Hi x H', i < n → Ex H Hi → Y i Hi x H' → Ex Hi H' ∧ ∃ σ2, (∀ Q : L2.St → Hp → Prop, Q σ2 H' → g x (wipe σ vs) H' Q) ∧ wipe σ2 vs = wipe σ vs ∧ EvT tt σ2 H' true ∧ EvU te σ2 H' (v i)) :
    ∀ H0, Ex H H0 → ∀ Q : VK, (∀ p as H1, H0 p = none → Ex H0 H1 → H1 p = some (.lst (as.map V.ref)) → TupsAt H1 as ((List.range n).map v) → Q (.ref p) H1) → tLc wi g tt te vs σ H0 Q := fun H0 e Q q => hi H0 e _ fun J H1 e1 ⟨G, w, g1, gm⟩ Dl hD =>
  lc_it w (fun i H' => (H1 Dl = none ∧ Ex H1 H' ∧ ∃ as : List Addr, H' Dl = some (.lst (as.map V.ref)) ∧ as.length = i ∧ TupsAt H' as ((List.range i).map v)) ∧ G H') ⟨⟨hD, Ex.new hD, [], upd_same, rfl, .nil⟩, gm _ _ g1 (Ex.new hD)⟩ (fun i H' _ p => p.2) (fun i x Hi H' hin p y => by
    obtain ⟨⟨p1, p2, as, p3, p4, p5⟩, pg⟩ := p
    obtain ⟨eY, σ2, hg, hw, ht, he⟩ := hs i Hi x H' hin ((e.trans e1).trans p2) y
    refine hg _ ⟨hw, ?_⟩
    refine ht H' (Ex.refl H') _ fun H3 e3 => ?_
    show te σ2 H3 _
    refine he H3 e3 _ fun t H4 nt e4 h4 => ?_
    have hD4 := e4 Dl _ (e3 Dl _ (eY Dl _ p3))
    refine ⟨as.map V.ref, hD4, sz_lt (by rw [List.length_map]; omega), ⟨p1, Ex.mut (((p2.trans eY).trans e3).trans e4) p1, as ++ [t], ?_, ?_, ?_⟩, ?_⟩
    · rw [upd_same, List.map_append]
      rfl
    · rw [List.length_append, p4]
      rfl
    · rw [List.range_succ, List.map_append]
      exact TupsAt.upd hD4 (paired_app ((p5.mono eY).mono (e3.trans e4)) (paired_one h4))
    · exact gm _ _ g1 (Ex.mut (((p2.trans eY).trans e3).trans e4) p1)) (fun H' p => by
    obtain ⟨⟨p1, p2, as, p3, p4, p5⟩, _⟩ := p
    exact q Dl as H' (fresh_back e1 p1) (e1.trans p2) p3 p5)
theorem q_asgLcU {D : Ends} {tz : TS} {i : Nat} (v : Nat → List V) (hi : EvI wi σ H (WalkX n Y)) (hn : n < 50000)
    (hs : ∀ i Hi x H', i < n → Ex H Hi → Y i Hi x H' → Ex Hi H' ∧ ∃ σ2, (∀ Q : L2.St → Hp → Prop, Q σ2 H' → g x (wipe σ vs) H' Q) ∧ wipe σ2 vs = wipe σ vs ∧ EvT tt σ2 H' true ∧ EvU te σ2 H' (v i))
    (k : ∀ p as H1, H p = none → Ex H H1 → H1 p = some (.lst (as.map V.ref)) → TupsAt H1 as ((List.range n).map v) → tz D (σ.set i (some (.ref p))) H1) : tSeq (tAsg (tLc wi g tt te vs) (gName i)) tz D σ H :=
  eg_lcU v hi hn hs H (Ex.refl H) (fun y H1 => tz D (σ.set i (some y)) H1) k
theorem ei_rng1 {ta : TA} {n : Int} (h : EvA ta σ H [.int n]) (hn : 0 ≤ n ∧ n ≤ 40000) : EvI (iRng1 ta) σ H (WalkX n.toNat (fun i H x H' => H' = H ∧ x = .int (i : Int))) := fun H1 e R r =>
  h H1 e _ fun H2 e2 => ⟨n, rfl, by omega, by omega, r _ H2 e2 ⟨_, ⟨(walk_range (lo := 0) (n := n.toNat)).goes, (walk_range (lo := 0) (n := n.toNat)).stops, fun i H x H' hi g y => by
    obtain ⟨a, b⟩ := (walk_range (lo := 0) (n := n.toNat)).yields i H x H' hi g y
    exact ⟨a, by rw [b]; exact congrArg V.int (Int.zero_add _)⟩⟩, trivial, fun _ _ _ _ => trivial⟩⟩
theorem shaped_intsT (ns : List Int) : SeqAt.shaped (.tuple (ns.map PyData.int)) = true := by
  have h1 := depth_ints ns
  have h2 : PyData.depth (.tuple (ns.map PyData.int)) ≤ 64 := by simp only [PyData.depth]; omega
  show (PyData.canLay0 _ && decide (PyData.depth _ ≤ 64)) = true
  rw [Bool.and_eq_true]
  exact ⟨by simp only [PyData.canLay0]; exact canLay_ints ns, decide_eq_true h2⟩
/-- a new tuple of numbers, a standing one -/
theorem ev_neIntsU {q : Addr} {ns : List Int} (h1 : EvU ta σ H (ns.map V.int)) (h2 : ∀ H1, Ex H H1 → Ev tb σ H1 (.ref q)) (hq : SqT K H q (ns.map V.int)) : Ev (tOp (rNeD K) ta tb) σ H (.bl false) := fun H1 e Q k =>
  h1 H1 e _ fun p H2 _ e2 hp => h2 H2 (e.trans e2) H2 (Ex.refl H2) _ fun H3 e3 => rv_neD (H := H3) (d := .tuple (ns.map .int)) (e := .tuple (ns.map .int)) (fun H4 e4 => .tup (st_of (e4 p _ (e3 p _ hp))) (dp_ints H4 ns)) (fun H4 e4 => .tup (ex_t (((e.trans e2).trans e3).trans e4) hq) (dp_ints H4 ns)) (shaped_intsT ns) (shaped_intsT ns) H3 (Ex.refl H3) Q (by rw [eqv_self (shaped_intsT ns)]; exact fun H4 e4 => k H4 ((e2.trans e3).trans e4))
/-- tuples of numbers, as the set's rule asks for them -/
theorem tups_ks : ∀ {as : List Addr} {ds : List (List Int)}, TupsAt H as (ds.map fun ns => ns.map V.int) → ∃ ks : List (Addr × List Int), ks.map (·.1) = as ∧ ks.map (·.2) = ds ∧ ∀ p ∈ ks, H p.1 = some (.tup (p.2.map V.int))
  | _, [], .nil => ⟨[], rfl, rfl, fun _ h => nomatch h⟩
  | a :: as, d :: ds, .cons r t => by
    obtain ⟨ks, h1, h2, h3⟩ := tups_ks t
    refine ⟨(a, d) :: ks, by rw [List.map_cons, h1], by rw [List.map_cons, h2], fun p hp => ?_⟩
    rcases List.mem_cons.mp hp with e | hp
    · rw [e]
      exact r
    · exact h3 p hp
/-- len(set(a list of different tuples of numbers)) -/
theorem ev_lenSet {P : Program} {w : World} {l : Addr} {as : List Addr} {ds : List (List Int)} (h : Ev ta σ H (.ref l)) (hl : H l = some (.lst (as.map V.ref))) (hT : TupsAt H as (ds.map fun ns => ns.map V.int)) (hn : ds.Nodup) (h64 : ds.length < 64) :
    Ev (tCB (rLenT P w) (tCons (tCB (rSetOfT K P w) (tCons ta tNil)) tNil)) σ H (.int (ds.length : Int)) := by
  obtain ⟨ks, rfl, rfl, h3⟩ := tups_ks hT
  rw [List.length_map] at h64 ⊢
  exact fun H1 e Q q => h H1 e _ fun H2 e2 => ⟨l, ks, rfl, sq_of (by
    rw [(e.trans e2) l _ hl, List.map_map]
    rfl), fun p hp => st_of ((e.trans e2) _ _ (h3 p hp)), h64, fun a L na hL1 hL2 => ⟨a, L, rfl, upd_same, fun hnd => by
    rw [set_size hn hnd hL1 hL2]
    exact q _ (e2.trans (Ex.new na))⟩⟩
end
end Hl
/-! Plain mathematics: runs of rows. -/
namespace Hl
def runStep (rs : List (Bool × Nat)) (b : Bool) : List (Bool × Nat) := match rs.getLast? with
  | none => [(b, 1)]
  | some (c, n) => if c = b then rs.dropLast ++ [(c, n + 1)] else rs ++ [(b, 1)]
def runsF (w : List Bool) : List (Bool × Nat) := w.foldl runStep []
def unruns (rs : List (Bool × Nat)) : List Bool := (rs.map fun r => List.replicate r.2 r.1).flatten
theorem runsF_snoc (w : List Bool) (b : Bool) : runsF (w ++ [b]) = runStep (runsF w) b := by
  unfold runsF
  rw [List.foldl_append]
  rfl
theorem runStep_nil (b : Bool) : runStep [] b = [(b, 1)] := rfl
theorem runStep_same (rs : List (Bool × Nat)) (c : Bool) (n : Nat) : runStep (rs ++ [(c, n)]) c = rs ++ [(c, n + 1)] := by
  unfold runStep
  rw [List.getLast?_concat]
  show (if c = c then (rs ++ [(c, n)]).dropLast ++ [(c, n + 1)] else _) = _
  rw [if_pos rfl, List.dropLast_concat]
theorem runStep_other (rs : List (Bool × Nat)) {b c : Bool} (n : Nat) (h : c ≠ b) : runStep (rs ++ [(c, n)]) b = rs ++ [(c, n)] ++ [(b, 1)] := by
  unfold runStep
  rw [List.getLast?_concat]
  show (if c = b then _ else _) = _
  rw [if_neg h]
theorem unruns_app (a b : List (Bool × Nat)) : unruns (a ++ b) = unruns a ++ unruns b := by unfold unruns; rw [List.map_append, List.flatten_append]
theorem unruns_one (r : Bool × Nat) : unruns [r] = List.replicate r.2 r.1 := by simp [unruns]
/-- next to one another they differ -/
def Alt (rs : List (Bool × Nat)) : Prop := ∀ i r r', rs[i]? = some r → rs[i + 1]? = some r' → r.1 ≠ r'.1
theorem snoc_cases {α : Type} (l : List α) : l = [] ∨ ∃ a x, l = a ++ [x] := by
  rcases List.eq_nil_or_concat l with h | ⟨a, x, h⟩
  · exact .inl h
  · exact .inr ⟨a, x, by rw [h]; simp⟩
theorem runs_ok : ∀ (n : Nat) (w : List Bool), w.length = n → unruns (runsF w) = w ∧ Alt (runsF w) ∧ ∀ r ∈ runsF w, 1 ≤ r.2 ∧ r.2 ≤ w.length
  | 0, w, h => by
    have : w = [] := List.eq_nil_of_length_eq_zero h
    subst this
    exact ⟨rfl, (fun i r r' h => by cases h), (fun r h => by cases h)⟩
  | n + 1, w, h => by
    rcases snoc_cases w with e | ⟨v, b, e⟩
    · subst e
      cases h
    subst e
    have hv : v.length = n := by simpa using h
    obtain ⟨h1, h2, h3⟩ := runs_ok n v hv
    rw [runsF_snoc]
    have hlen : (v ++ [b]).length = v.length + 1 := by simp
    rcases snoc_cases (runsF v) with e | ⟨rs, ⟨c, m⟩, e⟩
    · rw [e] at h1 h3 ⊢
      rw [runStep_nil]
      refine ⟨?_, fun i r r' _ h => ?_, fun r hr => ?_⟩
      · rw [← h1]
        rfl
      · simp at h
      · rw [List.mem_singleton.mp hr, hlen]
        exact ⟨Nat.le_refl _, by show 1 ≤ v.length + 1; omega⟩
    · rw [e] at h1 h2 h3 ⊢
      by_cases hc : c = b
      · subst hc
        rw [runStep_same]
        refine ⟨?_, fun i r r' a1 a2 => ?_, fun r hr => ?_⟩
        · rw [unruns_app, unruns_one] at h1 ⊢
          rw [← h1, List.replicate_succ', List.append_assoc]
        · by_cases hi : i + 1 < rs.length
          · rw [List.getElem?_append_left (by omega)] at a1 a2
            exact h2 i r r' (by rw [List.getElem?_append_left (by omega)]; exact a1) (by rw [List.getElem?_append_left (by omega)]; exact a2)
          · have hl := (List.getElem?_eq_some_iff.mp a2).1
            rw [List.length_append, List.length_singleton] at hl
            have hie : i + 1 = rs.length := by omega
            rw [List.getElem?_append_left (by omega)] at a1
            rw [hie, List.getElem?_append_right (Nat.le_refl _), Nat.sub_self] at a2
            have := h2 i r (c, m) (by rw [List.getElem?_append_left (by omega)]; exact a1) (by rw [hie, List.getElem?_append_right (Nat.le_refl _), Nat.sub_self]; rfl)
            have e2 : (c, m + 1) = r' := Option.some.inj a2
            rw [← e2]
            exact this
        · rw [hlen]
          rcases List.mem_append.mp hr with hr | hr
          · have := h3 r (List.mem_append_left _ hr)
            omega
          · rw [List.mem_singleton.mp hr]
            have := h3 (c, m) (List.mem_append_right _ (List.mem_singleton.mpr rfl))
            show 1 ≤ m + 1 ∧ m + 1 ≤ v.length + 1
            have h5 : 1 ≤ m ∧ m ≤ v.length := this
            omega
      · rw [runStep_other _ _ hc]
        refine ⟨?_, fun i r r' a1 a2 => ?_, fun r hr => ?_⟩
        · rw [unruns_app, unruns_one, h1]
          rfl
        · have hl := (List.getElem?_eq_some_iff.mp a2).1
          rw [List.length_append, List.length_append, List.length_singleton, List.length_singleton] at hl
          by_cases hi : i + 1 < rs.length + 1
          · rw [List.getElem?_append_left (by simp; omega)] at a1
            rw [List.getElem?_append_left (by simp; omega)] at a2
            exact h2 i r r' a1 a2
          · have hie : i = rs.length := by omega
            subst hie
            rw [List.getElem?_append_left (by simp), List.getElem?_append_right (Nat.le_refl _), Nat.sub_self] at a1
            rw [List.getElem?_append_right (by simp)] at a2
            simp at a1 a2
            rw [← a1, ← a2]
            exact hc
        · rw [hlen]
          rcases List.mem_append.mp hr with hr | hr
          · have := h3 r hr
            omega
          · rw [List.mem_singleton.mp hr]
            show 1 ≤ 1 ∧ 1 ≤ v.length + 1
            omega
theorem unruns_runs (w : List Bool) : unruns (runsF w) = w := (runs_ok _ w rfl).1
theorem runs_alt (w : List Bool) : Alt (runsF w) := (runs_ok _ w rfl).2.1
theorem runs_mem {w : List Bool} {r : Bool × Nat} (h : r ∈ runsF w) : 1 ≤ r.2 ∧ r.2 ≤ w.length := (runs_ok _ w rfl).2.2 r h
theorem runs_len : ∀ w : List Bool, (runsF w).length ≤ w.length := fun w => by
  have h1 := unruns_runs w
  have : ∀ rs : List (Bool × Nat), (∀ r ∈ rs, 1 ≤ r.2) → rs.length ≤ (unruns rs).length := fun rs h => by
    induction rs with
    | nil => exact Nat.le_refl _
    | cons r rs ih =>
      have e : unruns (r :: rs) = List.replicate r.2 r.1 ++ unruns rs := rfl
      have a := h r List.mem_cons_self
      have b := ih fun x hx => h x (List.mem_cons_of_mem _ hx)
      rw [e, List.length_append, List.length_replicate, List.length_cons]
      omega
  have := this (runsF w) fun r hr => (runs_mem hr).1
  rw [h1] at this
  exact this
theorem runs_nil {w : List Bool} : runsF w = [] ↔ w = [] := by
  constructor
  · intro h
    have := unruns_runs w
    rw [h] at this
    exact this.symm
  · rintro rfl
    rfl
/-! reading: each word a run or none -/
abbrev RdS := List Bool × Option Bool × Int
def rdStep (s : RdS) (o : Option (Bool × Nat)) : Option RdS := match o with
  | none => none
  | some (b, n) => if s.2.1 = some b then none else if s.2.2 + st b * (n : Int) < 0 then none else some (s.1 ++ List.replicate n b, some b, s.2.2 + st b * (n : Int))
def rdAll (s : RdS) : List (Option (Bool × Nat)) → Nat → Except Nat RdS
  | [], _ => .ok s
  | o :: os, i => match rdStep s o with
    | none => .error i
    | some s' => rdAll s' os (i + 1)
def rd0 : RdS := ([], none, 0)
def readF (os : List (Option (Bool × Nat))) : Except Nat (List Bool) := match rdAll rd0 os 0 with
  | .error i => .error i
  | .ok s => if s.2.2 = 0 then .ok s.1 else .error os.length
theorem rdAll_app : ∀ (os : List (Option (Bool × Nat))) (s s' : RdS) (i : Nat) (ps : List (Option (Bool × Nat))), rdAll s os i = .ok s' → rdAll s (os ++ ps) i = rdAll s' ps (i + os.length)
  | [], s, s', i, ps, h => by
    injection h with h
    subst h
    rfl
  | o :: os, s, s', i, ps, h => by
    have h' : (match rdStep s o with | none => Except.error i | some s1 => rdAll s1 os (i + 1)) = .ok s' := h
    show (match rdStep s o with | none => Except.error i | some s1 => rdAll s1 (os ++ ps) (i + 1)) = _
    cases e : rdStep s o with
    | none => rw [e] at h'; cases h'
    | some s1 =>
      rw [e] at h'
      rw [show i + (o :: os).length = i + 1 + os.length by rw [List.length_cons]; omega]
      exact rdAll_app os s1 s' (i + 1) ps h'
theorem hgt_rep (n : Nat) (b : Bool) : hgt (List.replicate n b) = st b * (n : Int) := by
  induction n with
  | zero => cases b <;> rfl
  | succ n ih =>
    rw [List.replicate_succ]
    show st b + hgt (List.replicate n b) = _
    rw [ih]
    cases b <;> simp [st] <;> omega
/-- a beginning of the runs of a row that stays up is read -/
theorem rd_take {w : List Bool} (hw : ∀ k, k ≤ w.length → 0 ≤ hgt (w.take k)) : ∀ k, k ≤ (runsF w).length → rdAll rd0 (((runsF w).take k).map some) 0 = .ok (unruns ((runsF w).take k), ((runsF w).take k).getLast?.map (·.1), hgt (unruns ((runsF w).take k)))
  | 0, _ => rfl
  | k + 1, hk => by
    have ih := rd_take hw k (by omega)
    obtain ⟨⟨b, n⟩, hr⟩ : ∃ r, (runsF w)[k]? = some r := ⟨_, List.getElem?_eq_getElem (by omega)⟩
    rw [take_snoc hr, List.map_append, rdAll_app _ _ _ _ _ ih]
    have key : ∀ u v : List Bool, w = u ++ v → 0 ≤ hgt u := fun u v e => by
      have := hw u.length (by rw [e, List.length_append]; omega)
      rw [e, List.take_left] at this
      exact this
    have h0 : 0 ≤ hgt (unruns ((runsF w).take (k + 1))) := key _ (unruns ((runsF w).drop (k + 1))) (by rw [← unruns_app, List.take_append_drop, unruns_runs])
    rw [take_snoc hr, unruns_app, unruns_one, hgt_app, hgt_rep] at h0
    have hl : (((runsF w).take k).getLast?.map (·.1)) ≠ some b := by
      cases k with
      | zero =>
        intro h
        cases h
      | succ k =>
        obtain ⟨r', hr'⟩ : ∃ r, (runsF w)[k]? = some r := ⟨_, List.getElem?_eq_getElem (by omega)⟩
        rw [take_snoc hr', List.getLast?_concat]
        intro h
        injection h with h
        exact runs_alt w k r' (b, n) hr' hr h
    rw [unruns_app, unruns_one, hgt_app, hgt_rep]
    show (match rdStep _ (some (b, n)) with | none => _ | some s' => _) = _
    unfold rdStep
    dsimp only
    rw [if_neg hl, if_neg (by have h1 : 0 ≤ hgt (unruns ((runsF w).take k)) + st b * (n : Int) := h0; omega), List.getLast?_concat]
    rfl
/-- the words of a hill row are read as the row -/
theorem read_runs {w : List Bool} (h : hillB none w = true) : readF ((runsF w).map some) = .ok w := by
  obtain ⟨h0, h1, _⟩ := hillB_iff.mp h
  have := rd_take h1 (runsF w).length (Nat.le_refl _)
  rw [List.take_length] at this
  unfold readF
  rw [this, unruns_runs, h0]
  rfl
/-- one fault: what is read ahead of it, the word that is none -/
theorem read_fault {w : List Bool} (h : hillB none w = true) {k : Nat} (hk : k ≤ (runsF w).length) {o : Option (Bool × Nat)} {os : List (Option (Bool × Nat))} (ho : rdStep (unruns ((runsF w).take k), ((runsF w).take k).getLast?.map (·.1), hgt (unruns ((runsF w).take k))) o = none) :
    readF (((runsF w).take k).map some ++ o :: os) = .error k := by
  have e := rd_take (hillB_iff.mp h).2.1 k hk
  unfold readF
  rw [rdAll_app _ _ _ _ _ e]
  have : rdAll (unruns ((runsF w).take k), ((runsF w).take k).getLast?.map (·.1), hgt (unruns ((runsF w).take k))) (o :: os) (0 + (((runsF w).take k).map some).length) = .error k := by
    show (match rdStep _ o with | none => Except.error _ | some s' => _) = _
    rw [ho]
    show Except.error (0 + (((runsF w).take k).map some).length) = Except.error k
    rw [List.length_map, List.length_take]
    congr 1
    omega
  rw [this]
/-- the first run of a hill row goes up, the last one down -/
theorem runs_first {w : List Bool} (h : hillB none w = true) (hw : w ≠ []) : ∃ n rs, runsF w = (true, n) :: rs ∧ 1 ≤ n ∧ rs ≠ [] := by
  obtain ⟨h0, h1, _⟩ := hillB_iff.mp h
  obtain ⟨⟨b, n⟩, rs, e⟩ := List.exists_cons_of_ne_nil (fun z => hw (runs_nil.mp z))
  have hm := (runs_mem (w := w) (r := (b, n)) (by rw [e]; exact List.mem_cons_self)).1
  have hu := unruns_runs w
  rw [e] at hu
  have hu2 : List.replicate n b ++ unruns rs = w := hu
  have hn : 1 ≤ n := hm
  cases b with
  | false =>
    exfalso
    have := h1 1 (by rw [← hu2, List.length_append, List.length_replicate]; omega)
    obtain ⟨m, rfl⟩ : ∃ m, n = m + 1 := ⟨n - 1, by omega⟩
    rw [← hu2, List.replicate_succ] at this
    have e2 : hgt ((false :: List.replicate m false ++ unruns rs).take 1) = -1 := rfl
    rw [e2] at this
    omega
  | true =>
    refine ⟨n, rs, e, hn, fun z => ?_⟩
    subst z
    have e2 : unruns ([] : List (Bool × Nat)) = [] := rfl
    rw [e2, List.append_nil] at hu2
    rw [← hu2, hgt_rep] at h0
    simp [st] at h0
    omega
theorem runs_last {w : List Bool} (h : hillB none w = true) (hw : w ≠ []) : ∃ n rs, runsF w = rs ++ [(false, n)] ∧ 1 ≤ n := by
  obtain ⟨h0, h1, _⟩ := hillB_iff.mp h
  rcases snoc_cases (runsF w) with e | ⟨rs, ⟨b, n⟩, e⟩
  · exact absurd (runs_nil.mp e) hw
  have hm : 1 ≤ n := (runs_mem (w := w) (r := (b, n)) (by rw [e]; simp)).1
  cases b with
  | false => exact ⟨n, rs, e, hm⟩
  | true =>
    exfalso
    have hu := unruns_runs w
    rw [e, unruns_app, unruns_one] at hu
    have hu2 : unruns rs ++ List.replicate n true = w := hu
    have := h1 (unruns rs).length (by rw [← hu2, List.length_append]; omega)
    rw [← hu2, List.take_left] at this
    rw [← hu2, hgt_app, hgt_rep] at h0
    simp [st] at h0
    omega
end Hl
/-! The last of a list (where P_runs is not there). -/
namespace Hl
open PySem PySem.Spec PyProof.Rows L2 Evl
theorem at_last {xs : List V} {v : V} : atI (xs ++ [v]) (-1) = some v := neg_one_at (i := xs.length) (by simp) (by rw [List.getElem?_append_right (Nat.le_refl _), Nat.sub_self]; rfl)
end Hl
/-! trees.py: folded, written, unfolded. -/
namespace Hl
open PySem PySem.Spec PyProof.Rows L2 Evl
abbrev s_folded : Stmt := topS 15
abbrev N_folded : List Str := ["row", "stack", "sign", "tree"]
abbrev ps_folded : List Str := ["row"]
theorem sc_folded : FnScope N_folded ps_folded (defScope s_folded) := ⟨rfl, rfl, rfl, by decide +kernel, rfl, by decide +kernel, by decide +kernel⟩

abbrev s_written : Stmt := topS 16
abbrev N_written : List Str := ["grove", "depth", "tree"]
abbrev ps_written : List Str := ["grove", "depth"]
theorem sc_written : FnScope N_written ps_written (defScope s_written) := ⟨rfl, rfl, rfl, by decide +kernel, rfl, by decide +kernel, by decide +kernel⟩

abbrev s_unfolded : Stmt := topS 17
abbrev N_unfolded : List Str := ["grove"]
abbrev ps_unfolded : List Str := ["grove"]
theorem sc_unfolded : FnScope N_unfolded ps_unfolded (defScope s_unfolded) := ⟨rfl, rfl, rfl, by decide +kernel, rfl, by decide +kernel, by decide +kernel⟩

/-- the thing v is the grove of the row w -/
inductive Gr (K : PySem.W.Frag) (H : Hp) : V → List Bool → Prop
  | mk {a : Addr} {vs : List V} {us : List (List Bool)} (h : SqT K H a vs) (hl : vs.length = us.length) (t : ∀ (i : Nat) (v : V) (u : List Bool), vs[i]? = some v → us[i]? = some u → Gr K H v u) : Gr K H (.ref a) ((us.map fun u => hillOf u []).flatten)
theorem Gr.mono {K : PySem.W.Frag} {H H' : Hp} (e : Ex H H') : ∀ {v : V} {w : List Bool}, Gr K H v w → Gr K H' v w := fun h => by
  induction h with
  | mk h hl t ih => exact .mk (ex_t e h) hl ih
theorem sqT_upd {K : PySem.W.Frag} {H : Hp} {m a : Addr} {xs ys zs : List V} (hm : H m = some (.lst xs)) (h : SqT K H a ys) : SqT K (upd H m (.lst zs)) a ys := by
  rcases h with (h | ⟨o, h⟩) | h
  · exact .inl (.inl (by rw [upd_ne (ne_of h hm (by intro z; cases z))]; exact h))
  · exact .inl (.inr ⟨o, by rw [upd_ne (ne_of h hm (by intro z; cases z))]; exact h⟩)
  · exact .inr h
theorem Gr.upd {K : PySem.W.Frag} {H : Hp} {m : Addr} {xs zs : List V} (hm : H m = some (.lst xs)) : ∀ {v : V} {w : List Bool}, Gr K H v w → Gr K (upd H m (.lst zs)) v w := fun h => by
  induction h with
  | mk h hl t ih => exact .mk (sqT_upd hm h) hl ih
theorem Gr.hill {K : PySem.W.Frag} {H : Hp} {v : V} {w : List Bool} (h : Gr K H v w) : hillB none w = true := by
  induction h with
  | mk h hl t ih =>
    refine hill_flat fun x hx => ?_
    obtain ⟨u, hu, rfl⟩ := List.mem_map.mp hx
    obtain ⟨i, hi, e⟩ := List.getElem_of_mem hu
    have hi2 : i < _ := hl ▸ hi
    exact hillOf_hill (ih i _ u (List.getElem?_eq_getElem hi2) (by rw [List.getElem?_eq_getElem hi, e])) (hill_nil none)
/-- trees beside one another -/
def Grs (K : PySem.W.Frag) (H : Hp) (vs : List V) (w : List Bool) : Prop := ∃ us : List (List Bool), w = (us.map fun u => hillOf u []).flatten ∧ vs.length = us.length ∧ ∀ (i : Nat) (v : V) (u : List Bool), vs[i]? = some v → us[i]? = some u → Gr K H v u
theorem Grs.mono {K : PySem.W.Frag} {H H' : Hp} {vs : List V} {w : List Bool} (e : Ex H H') (h : Grs K H vs w) : Grs K H' vs w := by
  obtain ⟨us, h1, h2, h3⟩ := h
  exact ⟨us, h1, h2, fun i v u a b => (h3 i v u a b).mono e⟩
theorem Grs.upd {K : PySem.W.Frag} {H : Hp} {m : Addr} {xs zs vs : List V} {w : List Bool} (hm : H m = some (.lst xs)) (h : Grs K H vs w) : Grs K (upd H m (.lst zs)) vs w := by
  obtain ⟨us, h1, h2, h3⟩ := h
  exact ⟨us, h1, h2, fun i v u a b => (h3 i v u a b).upd hm⟩
theorem Grs.nil {K : PySem.W.Frag} {H : Hp} : Grs K H [] [] := ⟨[], rfl, rfl, fun i v u a => by cases i <;> cases a⟩
theorem Grs.snoc {K : PySem.W.Frag} {H : Hp} {vs : List V} {v : V} {w u : List Bool} (h : Grs K H vs w) (g : Gr K H v u) : Grs K H (vs ++ [v]) (w ++ hillOf u []) := by
  obtain ⟨us, h1, h2, h3⟩ := h
  refine ⟨us ++ [u], by rw [List.map_append, List.flatten_append, h1]; simp, by rw [List.length_append, List.length_append, h2]; rfl, fun i x y a b => ?_⟩
  by_cases hi : i < vs.length
  · rw [List.getElem?_append_left hi] at a
    rw [List.getElem?_append_left (by omega)] at b
    exact h3 i x y a b
  · have hl := (List.getElem?_eq_some_iff.mp a).1
    rw [List.length_append, List.length_singleton] at hl
    have : i = vs.length := by omega
    subst this
    rw [List.getElem?_append_right (Nat.le_refl _), Nat.sub_self] at a
    rw [h2, List.getElem?_append_right (Nat.le_refl _), Nat.sub_self] at b
    cases a
    cases b
    exact g
theorem Grs.app {K : PySem.W.Frag} {H : Hp} {vs xs : List V} {w u : List Bool} (h : Grs K H vs w) (g : Grs K H xs u) : Grs K H (vs ++ xs) (w ++ u) := by
  obtain ⟨us, h1, h2, h3⟩ := h
  obtain ⟨us', h1', h2', h3'⟩ := g
  refine ⟨us ++ us', by rw [List.map_append, List.flatten_append, h1, h1'], by rw [List.length_append, List.length_append, h2, h2'], fun i x y a b => ?_⟩
  by_cases hi : i < vs.length
  · rw [List.getElem?_append_left hi] at a
    rw [List.getElem?_append_left (by omega)] at b
    exact h3 i x y a b
  · rw [List.getElem?_append_right (by omega)] at a
    rw [List.getElem?_append_right (by omega), ← h2] at b
    exact h3' _ x y a b
theorem Grs.gr {K : PySem.W.Frag} {H : Hp} {a : Addr} {vs : List V} {w : List Bool} (h : Grs K H vs w) (ha : SqT K H a vs) : Gr K H (.ref a) w := by
  obtain ⟨us, rfl, h2, h3⟩ := h
  exact .mk ha h2 h3
theorem Gr.grs {K : PySem.W.Frag} {H : Hp} {v : V} {w : List Bool} (h : Gr K H v w) : ∃ a vs, v = .ref a ∧ SqT K H a vs ∧ Grs K H vs w := by
  cases h with
  | mk h hl t => exact ⟨_, _, rfl, h, _, rfl, hl, t⟩
/-! ceilings -/
theorem ceil_in {m : Nat} {u v : List Bool} (h : hillB (some m) (hillOf u v) = true) (hu : hillB none u = true) (hv : hillB none v = true) : 1 ≤ m ∧ hillB (some (m - 1)) u = true ∧ hillB (some m) v = true := by
  obtain ⟨_, _, h3⟩ := hillB_iff.mp h
  obtain ⟨u1, u2, _⟩ := hillB_iff.mp hu
  obtain ⟨v1, v2, _⟩ := hillB_iff.mp hv
  have hul : (hillOf u v).length = u.length + v.length + 2 := by simp [hillOf]; omega
  have tk : ∀ k, k ≤ u.length → hgt ((hillOf u v).take (k + 1)) = 1 + hgt (u.take k) := fun k hk => by
    show hgt (true :: (u ++ false :: v).take k) = _
    rw [List.take_append_of_le_length hk]
    rfl
  have tk2 : ∀ k, k ≤ v.length → hgt ((hillOf u v).take (u.length + 2 + k)) = hgt (v.take k) := fun k hk => by
    have e : (hillOf u v).take (u.length + 2 + k) = true :: (u ++ false :: v.take k) := by
      have e1 : u.length + 2 + k = (u.length + (1 + k)) + 1 := by omega
      rw [e1]
      show true :: (u ++ false :: v).take (u.length + (1 + k)) = _
      rw [List.take_append, List.take_of_length_le (by omega), Nat.add_sub_cancel_left, Nat.add_comm 1 k]
      rfl
    rw [e]
    show st true + hgt (u ++ false :: v.take k) = _
    rw [hgt_app, u1]
    show st true + (0 + (st false + hgt (v.take k))) = _
    simp [st]
    omega
  have b1 : ∀ k, k ≤ u.length → 1 + hgt (u.take k) ≤ (m : Int) := fun k hk => by
    rw [← tk k hk]
    exact h3 m rfl (k + 1) (by omega)
  have b0 := b1 0 (Nat.zero_le _)
  have e0 : hgt (u.take 0) = 0 := rfl
  rw [e0] at b0
  refine ⟨by omega, hillB_iff.mpr ⟨u1, u2, fun m' e k hk => ?_⟩, hillB_iff.mpr ⟨v1, v2, fun m' e k hk => ?_⟩⟩
  · injection e with e
    subst e
    have := b1 k hk
    omega
  · injection e with e
    subst e
    rw [← tk2 k hk]
    exact h3 m rfl _ (by omega)
theorem ceil_parts {m : Nat} : ∀ {us : List (List Bool)}, (∀ u ∈ us, hillB none u = true) → hillB (some m) ((us.map fun u => hillOf u []).flatten) = true → ∀ u ∈ us, 1 ≤ m ∧ hillB (some (m - 1)) u = true
  | [], _, _, u, hu => nomatch hu
  | x :: us, hn, h, u, hu => by
    have hv : hillB none ((us.map fun u => hillOf u []).flatten) = true := hill_flat fun y hy => by
      obtain ⟨z, hz, rfl⟩ := List.mem_map.mp hy
      exact hillOf_hill (hn z (List.mem_cons_of_mem _ hz)) (hill_nil none)
    rw [List.map_cons, List.flatten_cons, ← hillOf_cat] at h
    obtain ⟨c1, c2, c3⟩ := ceil_in h (hn x List.mem_cons_self) hv
    rcases List.mem_cons.mp hu with e | hu
    · rw [e]
      exact ⟨c1, c2⟩
    · exact ceil_parts (fun y hy => hn y (List.mem_cons_of_mem _ hy)) c3 u hu
/-- no row is higher than it is long -/
theorem ceil_len {w : List Bool} (h : hillB none w = true) {m : Nat} (hm : w.length ≤ 2 * m + 1) : hillB (some m) w = true := by
  obtain ⟨h0, h1, _⟩ := hillB_iff.mp h
  have up : ∀ v : List Bool, hgt v ≤ (v.length : Int) ∧ -(v.length : Int) ≤ hgt v := fun v => by
    induction v with
    | nil => exact ⟨Int.le_refl _, Int.le_refl _⟩
    | cons b v ih =>
      show st b + hgt v ≤ ((v.length + 1 : Nat) : Int) ∧ -((v.length + 1 : Nat) : Int) ≤ st b + hgt v
      cases b <;> simp [st] <;> omega
  refine hillB_iff.mpr ⟨h0, h1, fun m' e k hk => ?_⟩
  injection e with e
  subst e
  have a := (up (w.take k)).1
  have b := (up (w.drop k)).2
  rw [hgt_drop, h0] at b
  rw [List.length_take] at a
  rw [List.length_drop] at b
  omega
def spFolded (K : PySem.W.Frag) (CW : Addr) : Sp := fun vs H Q E => ∃ z : Str, vs = [.str z] ∧ z.length ≤ 20000 ∧ (hillS none z = false → rx CW H E) ∧ ∀ w, z = rowS w → hillB none w = true → rg (fun v H' => Gr K H' v w) H Q
section
variable {P : Program} {w : World} {K : PySem.W.Frag} {mg : Str → Option Value} {base : Heap} {f : Addr} {fd : FuncData}
/-- what a stack of lists holds: the rows between the open ups -/
def stackRow : List (List Bool) → List Bool
  | [] => []
  | [w] => w
  | w :: v :: ws => w ++ true :: stackRow (v :: ws)
theorem stackRow_push : ∀ ws : List (List Bool), ws ≠ [] → stackRow (ws ++ [[]]) = stackRow ws ++ [true]
  | [], h => absurd rfl h
  | [w], _ => rfl
  | w :: v :: ws, _ => by
    have ih := stackRow_push (v :: ws) (by simp)
    show w ++ true :: stackRow (v :: ws ++ [[]]) = (w ++ true :: stackRow (v :: ws)) ++ [true]
    rw [ih]
    simp
theorem stackRow_pop : ∀ (ws : List (List Bool)) (v u : List Bool), stackRow (ws ++ [v ++ hillOf u []]) = stackRow (ws ++ [v, u]) ++ [false]
  | [], v, u => by
    show v ++ hillOf u [] = (v ++ true :: u) ++ [false]
    simp [hillOf]
  | [w], v, u => by
    show w ++ true :: (v ++ hillOf u []) = (w ++ true :: (v ++ true :: u)) ++ [false]
    simp [hillOf]
  | w :: x :: ws, v, u => by
    have ih := stackRow_pop (x :: ws) v u
    show w ++ true :: stackRow (x :: ws ++ [v ++ hillOf u []]) = (w ++ true :: stackRow (x :: ws ++ [v, u])) ++ [false]
    rw [ih]
    simp
theorem stackRow_hgt : ∀ ws : List (List Bool), (∀ w ∈ ws, hgt w = 0) → hgt (stackRow ws) + 1 = (ws.length : Int) ∨ ws = []
  | [], _ => .inr rfl
  | [w], h => .inl (by show hgt w + 1 = 1; rw [h w (by simp)]; rfl)
  | w :: v :: ws, h => by
    rcases stackRow_hgt (v :: ws) (fun x hx => h x (List.mem_cons_of_mem _ hx)) with ih | ih
    · refine .inl ?_
      show hgt (w ++ true :: stackRow (v :: ws)) + 1 = ((v :: ws).length + 1 : Nat)
      rw [hgt_app, h w (by simp)]
      show (0 : Int) + (st true + hgt (stackRow (v :: ws))) + 1 = _
      have : st true = 1 := rfl
      omega
    · cases ih
/-- the lists of the stack -/
def StackAt (K : PySem.W.Frag) (H0 H : Hp) (p : Addr) (ls : List Addr) (ws : List (List Bool)) : Prop := ls.length = ws.length ∧ ls.Nodup ∧ (∀ (i : Nat) (l : Addr) (w : List Bool), ls[i]? = some l → ws[i]? = some w → H0 l = none ∧ l ≠ p ∧ ∃ vs, H l = some (.lst vs) ∧ vs.length ≤ w.length ∧ Grs K H vs w)
theorem StackAt.mono {H0 H H' : Hp} {p : Addr} {ls : List Addr} {ws : List (List Bool)} (e : Ex H H') (h : StackAt K H0 H p ls ws) : StackAt K H0 H' p ls ws := by
  obtain ⟨h1, h2, h3⟩ := h
  refine ⟨h1, h2, fun i l w a b => ?_⟩
  obtain ⟨c1, c2, vs, c3, c4, c5⟩ := h3 i l w a b
  exact ⟨c1, c2, vs, e l _ c3, c4, c5.mono e⟩
theorem grs_hgt {H : Hp} {vs : List V} {w : List Bool} (h : Grs K H vs w) : hgt w = 0 := by
  obtain ⟨us, rfl, h2, h3⟩ := h
  refine (hillB_iff.mp (hill_flat (c := none) fun x hx => ?_)).1
  obtain ⟨u, hu, rfl⟩ := List.mem_map.mp hx
  obtain ⟨i, hi, e⟩ := List.getElem_of_mem hu
  exact hillOf_hill (h3 i _ u (List.getElem?_eq_getElem (by omega)) (by rw [List.getElem?_eq_getElem hi, e])).hill (hill_nil none)
theorem q_tuplePop {σ : L2.St} {H : Hp} {D : Ends} {tz : TS} {ta : TE} {p l : Addr} {xs vs : List V} {i : Nat} (hp : H p = some (.lst (xs ++ [.ref l]))) (hl : H l = some (.lst vs)) (hlp : l ≠ p) (ha : Ev ta σ H (.ref p))
    (k : ∀ H1, Ex H H1 → ∀ t, (upd H1 p (.lst xs)) t = none → tz D (σ.set i (some (.ref t))) (upd (upd H1 p (.lst xs)) t (.tup vs))) :
    tSeq (tAsg (tCB (fun xs H Q => ∃ p ys, xs = [.ref p] ∧ ((SqL K H p ys ∧ ∀ l, H l = none → Q (.ref l) (upd H l (.tup ys))) ∨ (SqT K H p ys ∧ Q (.ref p) H))) (tCons (tBM0 K "list" rPop ta) tNil)) (gName i)) tz D σ H :=
  ha H (Ex.refl H) _ fun H1 e => ⟨Or.inl ⟨rfl, _, sq_of (e p _ hp)⟩, p, _, .ref l, rfl, rfl, e p _ hp, by rw [List.length_append, List.length_singleton, Nat.add_sub_cancel, List.getElem?_append_right (Nat.le_refl _), Nat.sub_self]; rfl, ⟨l, vs, rfl, .inl ⟨sq_of (by rw [upd_ne hlp]; exact e l _ hl), fun t nt => by
    rw [List.dropLast_concat] at nt ⊢
    exact k H1 e t nt⟩⟩⟩
theorem eu_tupleOf {σ : L2.St} {H : Hp} {ta : TE} {l : Addr} {vs : List V} (h : Ev ta σ H (.ref l)) (hl : SqL K H l vs) : EvU (tCB (fun xs H Q => ∃ p ys, xs = [.ref p] ∧ ((SqL K H p ys ∧ ∀ l, H l = none → Q (.ref l) (upd H l (.tup ys))) ∨ (SqT K H p ys ∧ Q (.ref p) H))) (tCons ta tNil)) σ H vs := fun H1 e Q q =>
  h H1 e _ fun H2 e2 => ⟨l, vs, rfl, .inl ⟨ex_l (e.trans e2) hl, fun t nt => q t _ (fresh_back e2 nt) (e2.trans (Ex.new nt)) upd_same⟩⟩
theorem ok_folded {CW : Addr} (F : FnP K "folded" s_folded [] f fd) (B : Blt mg) (f_need_hill_d : Cal P w K mg base 3 "need_hill" (spNeedHill CW) [.non]) : FnOk P w K mg base (L2.CX P w) 4 f fd ps_folded (spFolded K CW) := by
  refine F.ok sc_folded (fun vs H Q E h => ?_) (fun cdv A outer s H vs Q E hr h => ?_)
  · obtain ⟨z, rfl, _⟩ := h
    rfl
  · obtain ⟨z, rfl, hz, qw, q⟩ := h
    refine ⟨_, (pss_cons (ps_expr (pe_cal f_need_hill_d hr (by decide) (by rfl) hxOf (pa_cons (pv 0) pa_nil)))
    (pss_cons (ps_set (i := 1) sc_folded.nd rfl (by first | exact Or.inl rfl | exact Or.inr rfl) (pe_lst (pa_cons (pe_lst pa_nil) pa_nil)))
    (pss_cons (ps_for hpOf rfl (pi_str (pv 0)) (pg_name (i := 2) sc_folded.nd rfl (by first | exact Or.inl rfl | exact Or.inr rfl))
      (pss_one (ps_if (pt_cmpR op_eq (pv 2) pe_str (nomark _))
        (pss_one (ps_expr (pe_bm PySem.F.plainAttrs_list PySem.F.slot_list_append PySem.F.type_list_append mt_append (pv 1) (pa_cons (pe_lst pa_nil) pa_nil))))
        (pss_cons (ps_set (i := 3) sc_folded.nd rfl (by first | exact Or.inl rfl | exact Or.inr rfl) (pe_callTy call_tuple_of (by rfl) B.tuple (by first | rfl | decide +kernel) (pa_cons (pe_bm0 PySem.F.plainAttrs_list PySem.F.slot_list_pop PySem.F.type_list_pop mt_pop (pv 1)) pa_nil)))
        (pss_one (ps_expr (pe_bm PySem.F.plainAttrs_list PySem.F.slot_list_append PySem.F.type_list_append mt_append (pe_ix ix_list (pv 1) (pe_un un_neg pe_int) (fun _ _ => rfl)) (pa_cons (pv 3) pa_nil))))))))
    (pss_one (ps_ret (pe_callTy call_tuple_of (by rfl) B.tuple (by first | rfl | decide +kernel) (pa_cons (pe_ix ix_list (pv 1) pe_int (fun _ _ => rfl)) pa_nil))))))), ?_⟩
    by_cases hh : hillS none z = true
    · obtain ⟨w, rfl, hw⟩ := hillS_iff.mp hh
      rw [rowS_len] at hz
      have q2 := q w rfl hw
      obtain ⟨w0, w1, _⟩ := hillB_iff.mp hw
      refine q_drop (ev_needHill_d (by omega) hw (ev_var rfl)) fun H1 e1 => ?_
      refine q_asgLL (xs := []) (el_lst ea_nil (Nat.zero_le _)) fun l0 p H2 nl np nlp e2 hl0 hp => ?_
      refine q_forStr (ev_var rfl) (fun i σ H' => ∃ (s2 s3 : Option V) (ls : List Addr) (ws : List (List Bool)), σ = [some (.str (rowS w)), some (.ref p), s2, s3] ∧ Ex H1 H' ∧ H' p = some (.lst (ls.map V.ref)) ∧ ls.length ≤ i + 1 ∧ StackAt K H1 H' p ls ws ∧ stackRow ws = w.take i ∧ ls ≠ [])
        (fun H3 e3 => ⟨_, _, [l0], [[]], rfl, e2.trans e3, e3 p _ hp, Nat.le_refl _, ⟨rfl, by simp, fun j l w a b => ?_⟩, rfl, by simp⟩) (fun i ch σ' H3 hch hP => ?_) (fun σ' H3 hP => ?_)
      · cases j with
        | zero =>
          cases a
          cases b
          exact ⟨nl, nlp, [], e3 l0 _ hl0, Nat.le_refl _, Grs.nil⟩
        | succ j => simp at a
      · obtain ⟨s2, s3, ls, ws, rfl, x1, hp3, hll, hS, hrow, hne⟩ := hP
        obtain ⟨b, hb, rfl⟩ := row_sign hch
        have hi := (List.getElem?_eq_some_iff.mp hb).1
        refine s_if (et_is (et_test (ev_op (ev_var rfl) ev_c (rv_eq rfl))) (sgS_u b)) (fun hbt H4 e4 => ?_) (fun hbf H4 e4 => ?_)
        · subst hbt
          have hp4 := e4 p _ hp3
          refine s_appL hp4 (ev_var rfl) (ys := []) (el_lst ea_nil (Nat.zero_le _)) (by rw [List.length_map]; omega) fun l H5 nl5 e5 hl5 => ?_
          have hp5 := e5 p _ hp4
          have nlp5 : l ≠ p := (ne_of_none hp4 nl5).symm
          have hS5 := (hS.mono e4).mono e5
          obtain ⟨g1, g2, g3⟩ := hS5
          have hlnew : l ∉ ls := fun hm => by
            obtain ⟨j, hj, ej⟩ := List.getElem_of_mem hm
            obtain ⟨_, _, vs, hv, _⟩ := (hS.mono e4).2.2 j l (ws[j]'(by omega)) (by rw [List.getElem?_eq_getElem hj, ej]) (List.getElem?_eq_getElem (by omega))
            rw [hv] at nl5
            cases nl5
          refine ⟨_, _, ls ++ [l], ws ++ [[]], rfl, ((x1.trans e4).trans e5).mut np, by rw [upd_same, List.map_append]; rfl, by rw [List.length_append, List.length_singleton]; omega, ⟨by rw [List.length_append, List.length_append, g1]; rfl, ?_, fun j l' w' a b => ?_⟩, ?_, by simp⟩
          · rw [List.nodup_append]
            refine ⟨g2, by simp, fun x hx y hy => ?_⟩
            rw [List.mem_singleton.mp hy]
            rintro rfl
            exact hlnew hx
          · by_cases hjl : j < ls.length
            · rw [List.getElem?_append_left hjl] at a
              rw [List.getElem?_append_left (by omega)] at b
              obtain ⟨c1, c2, vs, c3, c4, c5⟩ := g3 j l' w' a b
              exact ⟨c1, c2, vs, by rw [upd_ne c2]; exact c3, c4, c5.upd hp5⟩
            · have hlt := (List.getElem?_eq_some_iff.mp a).1
              rw [List.length_append, List.length_singleton] at hlt
              have : j = ls.length := by omega
              subst this
              rw [List.getElem?_append_right (Nat.le_refl _), Nat.sub_self] at a
              rw [g1, List.getElem?_append_right (Nat.le_refl _), Nat.sub_self] at b
              cases a
              cases b
              exact ⟨fresh_back (x1.trans e4) nl5, nlp5, [], by rw [upd_ne nlp5]; exact hl5, Nat.le_refl _, Grs.nil⟩
          · rw [stackRow_push ws (fun z => hne (List.eq_nil_of_length_eq_zero (by rw [hS.1, z]; rfl))), hrow, take_snoc hb]
        · subst hbf
          have hp4 := e4 p _ hp3
          have hS4 := hS.mono e4
          obtain ⟨g1, g2, g3⟩ := hS4
          -- the stack holds two lists at least
          have hws0 : ∀ x ∈ ws, hgt x = 0 := fun x hx => by
            obtain ⟨j, hj, ej⟩ := List.getElem_of_mem hx
            obtain ⟨_, _, vs, _, _, g⟩ := g3 j (ls[j]'(by omega)) x (List.getElem?_eq_getElem (by omega)) (by rw [List.getElem?_eq_getElem hj, ej])
            exact grs_hgt g
          have hlen2 : 2 ≤ ls.length := by
            rcases stackRow_hgt ws hws0 with h | h
            · rw [hrow] at h
              have h2 := w1 (i + 1) (by omega)
              rw [hgt_step hb] at h2
              have : st false = -1 := rfl
              omega
            · exact absurd (List.eq_nil_of_length_eq_zero (by rw [g1, h]; rfl)) hne
          obtain ⟨ls0, l1, l2, hls⟩ : ∃ ls0 l1 l2, ls = ls0 ++ [l1, l2] := by
            rcases snoc_cases ls with e | ⟨a, l2, e⟩
            · rw [e] at hlen2; cases hlen2
            · rcases snoc_cases a with e' | ⟨a', l1, e'⟩
              · rw [e, e'] at hlen2; simp at hlen2
              · exact ⟨a', l1, l2, by rw [e, e']; simp⟩
          obtain ⟨ws0, v1, v2, hws⟩ : ∃ ws0 v1 v2, ws = ws0 ++ [v1, v2] := by
            have hlen3 : 2 ≤ ws.length := by omega
            rcases snoc_cases ws with e | ⟨a, l2, e⟩
            · rw [e] at hlen3; cases hlen3
            · rcases snoc_cases a with e' | ⟨a', l1, e'⟩
              · rw [e, e'] at hlen3; simp at hlen3
              · exact ⟨a', l1, l2, by rw [e, e']; simp⟩
          subst hls hws
          have hl0 : ls0.length = ws0.length := by simpa using g1
          obtain ⟨a1, a2, vs1, a3, a4, a5⟩ := g3 ls0.length l1 v1 (by rw [List.getElem?_append_right (Nat.le_refl _), Nat.sub_self]; rfl) (by rw [hl0, List.getElem?_append_right (Nat.le_refl _), Nat.sub_self]; rfl)
          obtain ⟨b1, b2, vs2, b3, b4, b5⟩ := g3 (ls0.length + 1) l2 v2 (by rw [List.getElem?_append_right (by omega), Nat.add_sub_cancel_left]; rfl) (by rw [hl0, List.getElem?_append_right (by omega), Nat.add_sub_cancel_left]; rfl)
          have hnd : l1 ≠ l2 := by
            rw [List.nodup_append] at g2
            have := g2.2.1
            simp at this
            exact this
          have hlv1 : vs1.length ≤ 20000 := by
            have h1 := congrArg List.length hrow
            rw [List.length_take] at h1
            have h2 : ∀ (ws : List (List Bool)) (a b : List Bool), a.length ≤ (stackRow (ws ++ [a, b])).length := fun ws a b => by
              induction ws with
              | nil => show _ ≤ (a ++ true :: b).length; simp
              | cons x ws ih =>
                cases ws with
                | nil => show _ ≤ (x ++ true :: (a ++ true :: b)).length; simp; omega
                | cons y ws =>
                  show _ ≤ (x ++ true :: stackRow (y :: ws ++ [a, b])).length
                  rw [List.length_append, List.length_cons]
                  omega
            have := h2 ws0 v1 v2
            omega
          have hmap : (ls0 ++ [l1, l2]).map V.ref = (ls0 ++ [l1]).map V.ref ++ [V.ref l2] := by simp
          refine q_tuplePop (p := p) (xs := (ls0 ++ [l1]).map V.ref) (l := l2) (vs := vs2) (by rw [hp4, hmap]) b3 b2 (ev_var rfl) fun H5 e5 t nt => ?_
          have hp5 := e5 p _ hp4
          have ht1 : l1 ≠ t := fun z => by
            subst z
            rw [upd_ne a2, e5 l1 _ a3] at nt
            cases nt
          have htp : p ≠ t := fun z => by
            subst z
            rw [upd_same] at nt
            cases nt
          have et : Ex (upd H5 p (.lst ((ls0 ++ [l1]).map V.ref))) (upd (upd H5 p (.lst ((ls0 ++ [l1]).map V.ref))) t (.tup vs2)) := Ex.new nt
          generalize hH6 : upd (upd H5 p (.lst ((ls0 ++ [l1]).map V.ref))) t (.tup vs2) = H6 at et
          have gup : ∀ {vs : List V} {x : List Bool}, Grs K H4 vs x → Grs K H6 vs x := fun g => ((g.mono e5).upd hp5).mono et
          have htt : H6 t = some (.tup vs2) := by rw [← hH6]; exact upd_same
          have hp6 : H6 p = some (.lst ((ls0 ++ [l1]).map V.ref)) := et p _ upd_same
          have hl16 : H6 l1 = some (.lst vs1) := et l1 _ (by rw [upd_ne a2]; exact e5 l1 _ a3)
          have exH : Ex H1 H6 := (((x1.trans e4).trans e5).mut np).trans et
          have hgt2 : Gr K H6 (.ref t) v2 := (gup b5).gr (st_of htt)
          refine s_app hl16 (ev_op (ev_var rfl) (ev_un ev_c ru_neg) (rv_ixL (sq_of hp6) (by rw [List.map_append]; exact at_last))) (v := .ref t) (ev_var rfl) (by omega) fun H7 e7 => ?_
          have hl17 := e7 l1 _ hl16
          refine ⟨_, _, ls0 ++ [l1], ws0 ++ [v1 ++ hillOf v2 []], rfl, (exH.trans e7).mut a1, ?_, ?_, ⟨by rw [List.length_append, List.length_append, hl0]; rfl, ?_, fun j l' w' a b => ?_⟩, ?_, by simp⟩
          · rw [upd_ne a2.symm]
            exact e7 p _ hp6
          · rw [List.length_append] at hll ⊢
            have : [l1, l2].length = 2 := rfl
            rw [List.length_singleton]
            omega
          · rw [List.nodup_append] at g2 ⊢
            refine ⟨g2.1, by simp, fun x hx y hy => g2.2.2 x hx y (by rw [List.mem_singleton.mp hy]; simp)⟩
          · by_cases hjl : j < ls0.length
            · rw [List.getElem?_append_left hjl] at a
              rw [List.getElem?_append_left (by omega)] at b
              obtain ⟨c1, c2, vs, c3, c4, c5⟩ := g3 j l' w' (by rw [List.getElem?_append_left hjl]; exact a) (by rw [List.getElem?_append_left (by omega)]; exact b)
              have hne1 : l' ≠ l1 := by
                rw [List.nodup_append] at g2
                exact g2.2.2 l' (List.mem_of_getElem? a) l1 (by simp)
              refine ⟨c1, c2, vs, ?_, c4, ((gup c5).mono e7).upd hl17⟩
              rw [upd_ne hne1]
              exact e7 l' _ (et l' _ (by rw [upd_ne c2]; exact e5 l' _ c3))
            · have hlt := (List.getElem?_eq_some_iff.mp a).1
              rw [List.length_append, List.length_singleton] at hlt
              have : j = ls0.length := by omega
              subst this
              rw [List.getElem?_append_right (Nat.le_refl _), Nat.sub_self] at a
              rw [hl0, List.getElem?_append_right (Nat.le_refl _), Nat.sub_self] at b
              cases a
              cases b
              refine ⟨a1, a2, vs1 ++ [.ref t], upd_same, ?_, ?_⟩
              · rw [List.length_append, List.length_append]
                show vs1.length + 1 ≤ v1.length + (v2 ++ [false]).length.succ
                omega
              · exact ((((gup a5).snoc hgt2).mono e7)).upd hl17
          · rw [stackRow_pop, hrow, take_snoc hb]
      · obtain ⟨s2, s3, ls, ws, rfl, x1, hp3, hll, ⟨g1, g2, g3⟩, hrow, hne⟩ := hP
        rw [row_size, List.take_length] at hrow
        have hws0 : ∀ x ∈ ws, hgt x = 0 := fun x hx => by
          obtain ⟨j, hj, ej⟩ := List.getElem_of_mem hx
          obtain ⟨_, _, vs, _, _, g⟩ := g3 j (ls[j]'(by omega)) x (List.getElem?_eq_getElem (by omega)) (by rw [List.getElem?_eq_getElem hj, ej])
          exact grs_hgt g
        have hlen1 : ls.length = 1 := by
          rcases stackRow_hgt ws hws0 with h | h
          · rw [hrow, w0] at h
            omega
          · exact absurd (List.eq_nil_of_length_eq_zero (by rw [g1, h]; rfl)) hne
        obtain ⟨l, rfl⟩ : ∃ l, ls = [l] := List.length_eq_one_iff.mp hlen1
        obtain ⟨x, rfl⟩ : ∃ x, ws = [x] := List.length_eq_one_iff.mp (by rw [← g1]; rfl)
        have hx : x = w := hrow
        subst hx
        obtain ⟨_, _, vs, hv, _, g⟩ := g3 0 l x rfl rfl
        refine s_retU (eu_tupleOf (ev_op (z := .ref l) (ev_var rfl) ev_c (rv_ixL (i := ((0 : Nat) : Int)) (sq_of hp3) (atI_nat rfl))) (sq_of hv)) fun t H4 nt e4 ht => ?_
        exact q2 _ _ ((e1.trans x1).trans e4) ((g.mono e4).gr (st_of ht))
    · exact rs_seq (rs_drop (rx_needHill_d (by omega) (by simpa using hh) (ev_var rfl) (qw (by simpa using hh))))
theorem eg_folded {σ : L2.St} {H : Hp} {ta : TE} {w : List Bool} {CW : Addr} {E : XK} (hl : w.length ≤ 20000) (hw : hillB none w = true) (h1 : Ev ta σ H (.str (rowS w))) : EvG (tCall (spFolded K CW) [] E (tCons ta tNil)) σ H (fun v H' => Gr K H' v w) :=
  eg_call (ea_cons h1 ea_nil) fun H1 e Q q E => ⟨_, rfl, by rw [rowS_len]; exact hl, fun z => (by rw [hillS_row, hw] at z; cases z), fun w' ew _ => by rw [← rowS_inj ew]; exact q⟩
end
end Hl
/-! trees.py: written, unfolded, with what they refuse (k07). -/
namespace Hl
open PySem PySem.Spec PyProof.Rows L2 Evl
/-- a thing that is no tuple -/
def NoTup (H : Hp) (v : V) : Prop := Plain v ∨ ∃ l xs, v = .ref l ∧ H l = some (.lst xs)
/-- what is no grove, k deep: behind groves stands a thing that is none -/
inductive Bad (K : PySem.W.Frag) (H : Hp) : Nat → V → Prop
  | leaf {k : Nat} {v : V} (h : NoTup H v) : Bad K H k v
  | node {k i : Nat} {a : Addr} {vs : List V} {x : V} (h : SqT K H a vs) (hl : vs.length ≤ 1000) (hi : vs[i]? = some x) (hb : Bad K H k x) (hg : ∀ (j : Nat) (v : V), j < i → vs[j]? = some v → ∃ u : List Bool, Gr K H v u ∧ u.length ≤ 150) : Bad K H (k + 1) (.ref a)
theorem NoTup.mono {H H' : Hp} {v : V} (h : NoTup H v) (e : Ex H H') : NoTup H' v := by
  rcases h with h | ⟨l, xs, h1, h2⟩
  · exact .inl h
  · exact .inr ⟨l, xs, h1, e l _ h2⟩
theorem Bad.mono {K : PySem.W.Frag} {H H' : Hp} (e : Ex H H') : ∀ {k : Nat} {v : V}, Bad K H k v → Bad K H' k v := fun h => by
  induction h with
  | leaf h => exact .leaf (h.mono e)
  | node h hl hi hb hg ih => exact .node (ex_t e h) hl hi ih fun j v hj hv => (hg j v hj hv).elim fun u z => ⟨u, z.1.mono e, z.2⟩
def spWrX (K : PySem.W.Frag) (CT : Addr) (n : Nat) : Sp := fun vs H Q E =>
  (∃ (v : V) (w : List Bool) (d m : Nat), vs = [v, .int (d : Int)] ∧ n = m + 1 ∧ Gr K H v w ∧ hillB (some m) w = true ∧ w.length ≤ 1000 ∧ d + m ≤ 200 ∧ RetV (.str (rowS w)) H Q) ∨
  ∃ (v : V) (d k : Nat), vs = [v, .int (d : Int)] ∧ Bad K H k v ∧ 101 + k ≤ n ∧ d + n ≤ 201 ∧ rx CT H E
def spUnfX (K : PySem.W.Frag) (CT : Addr) : Sp := fun vs H Q E => (∃ (v : V) (w : List Bool), vs = [v] ∧ Gr K H v w ∧ w.length ≤ 401 ∧ RetV (.str (rowS w)) H Q) ∨ ∃ (v : V) (k : Nat), vs = [v] ∧ Bad K H k v ∧ k ≤ 9 ∧ rx CT H E
section
variable {K : PySem.W.Frag} {σ : L2.St} {H H' : Hp} {ta tb tl te : TE} {tt : TT} {wi : TI} {g : TG} {vs : List Nat} {n : Nat} {Y : Nat → Hp → V → Hp → Prop}
/-- a comprehension whose element at k is refused -/
theorem rx_lc1 {Z : Nat → V → Prop} {j k : Nat} (v : Nat → V) (hi : EvI wi σ H (WalkX n (fun i H x H' => H' = H ∧ Z i x))) (hn : n < 50000) (hk : k < n) (hw : ∀ x, wipe ((wipe σ vs).set j (some x)) vs = wipe σ vs)
    (hs : ∀ i H1 x, i ≤ k → Ex H H1 → Z i x → EvT tt ((wipe σ vs).set j (some x)) H1 true ∧ (i < k → Ev te ((wipe σ vs).set j (some x)) H1 (v i)) ∧ (i = k → Rx te ((wipe σ vs).set j (some x)) H1)) : Rx (tLc wi (gName j) tt te vs) σ H :=
  fun H0 e Q => hi H0 e _ fun J H1 e1 ⟨G, w, g1, gm⟩ Dl hD =>
  lc_it w (fun i H' => (Cw H1 (fun _ => true) v Dl i H' ∧ G H') ∧ i ≤ k) ⟨⟨⟨hD, Ex.new hD, upd_same⟩, gm _ _ g1 (Ex.new hD)⟩, Nat.zero_le _⟩ (fun i H' _ p => p.1.2) (fun i x Hi H' hin p y => by
    obtain ⟨⟨⟨p1, p2, p3⟩, pg⟩, pk⟩ := p
    obtain ⟨rfl, z⟩ := y
    obtain ⟨ht, he, hr⟩ := hs i _ x pk ((e.trans e1).trans p2) z
    refine ⟨hw x, ht _ (Ex.refl _) _ fun H3 e3 => ?_⟩
    show te _ H3 _
    by_cases hik : i = k
    · exact hr hik H3 e3 _
    · refine he (by omega) H3 e3 _ fun H4 e4 => ⟨given i (fun _ => true) v, e4 Dl _ (e3 Dl _ p3), sz_lt (by have := given_len i (fun _ => true) v; omega), ⟨⟨p1, Ex.mut ((p2.trans e3).trans e4) p1, ?_⟩, gm _ _ g1 (Ex.mut ((p2.trans e3).trans e4) p1)⟩, by omega⟩
      rw [given_yes (by rfl)]
      exact upd_same) fun H' p => absurd p.2 (by omega)
theorem rx_join {a : Str} (h1 : Ev ta σ H (.str a)) (h2 : Rx tb σ H) :
    Rx (tM1 (fun x xs H Q => ∃ a p, ∃ ys : List Str, x = .str a ∧ xs = [.ref p] ∧ (SqL K H p (ys.map V.str) ∨ SqT K H p (ys.map V.str)) ∧ (ys.map (·.length)).sum + ys.length * a.length ≤ 16777216 ∧ Q (.str (Txt.join a ys)) H) ta tb) σ H := fun H1 e Q =>
  h1 H1 e _ fun H2 e2 => ⟨⟨a, rfl⟩, h2 H2 (e.trans e2) _⟩
end
section
variable {P : Program} {w : World} {K : PySem.W.Frag} {mg : Str → Option Value} {base : Heap} {f : Addr} {fd : FuncData}
theorem tyx_tup {H : Hp} {a : Addr} {vs : List V} (h : SqT K H a vs) : TyX K H (.ref a) (.type "tuple") := by
  rcases h with (h | ⟨o, h⟩) | ⟨o, its, n, h1, h2, _⟩
  · exact .base (.tup h)
  · exact .fTuple h
  · exact .kTuple h1 h2
theorem ev_isTup {σ : L2.St} {H : Hp} {ta tc : TE} {a : Addr} {vs : List V} (h1 : Ev ta σ H (.ref a)) (h2 : Ev tc σ H (.ty "tuple")) (ht : SqT K H a vs) : Ev (tCB (rIsi K) (tCons ta (tCons tc tNil))) σ H (.bl true) :=
  ev_isi (b := true) (T := "tuple") h1 h2 (tyx_tup ht) (by decide +kernel) fun H1 e => tyx_tup (ex_t e ht)
theorem ev_noTup {σ : L2.St} {H : Hp} {ta tc : TE} {v : V} (h1 : Ev ta σ H v) (h2 : Ev tc σ H (.ty "tuple")) (ht : NoTup H v) : Ev (tCB (rIsi K) (tCons ta (tCons tc tNil))) σ H (.bl false) := by
  rcases ht with ht | ⟨l, xs, rfl, hl⟩
  · cases ht with
    | non => exact ev_isi h1 h2 (.base .non) (by decide +kernel) fun _ _ => .base .non
    | bl b => exact ev_isi h1 h2 (.base (.bl _)) (by decide +kernel) fun _ _ => .base (.bl _)
    | int i => exact ev_isi h1 h2 (.base (.int _)) (by decide +kernel) fun _ _ => .base (.int _)
    | str z => exact ev_isi h1 h2 (.base (.str _)) (by decide +kernel) fun _ _ => .base (.str _)
  · exact ev_isi (T := "list") h1 h2 (.base (.lst hl)) (by decide +kernel) fun H1 e => .base (.lst (e l _ hl))
theorem written_x {CT : Addr} (F : FnP K "written" s_written [] f fd) (B : Blt mg) (g : mg "written" = some (.ref f)) (b : Binds K fd ps_written []) (x_NoTree : Exc K mg "NoTree" CT) : ∀ n, FnOk P w K mg base (L2.CX P w) n f fd ps_written (spWrX K CT n)
  | 0 => by
    have no : ∀ vs H Q E, ¬ spWrX K CT 0 vs H Q E := fun vs H Q E h => by
      rcases h with ⟨_, _, _, _, _, h, _⟩ | ⟨_, _, _, _, _, h, _⟩
      · omega
      · omega
    exact ⟨fun vs H Q E h => absurd h (no vs H Q E), fun A outer s H args us vs Q E _ _ _ _ h => absurd h (no vs H Q E)⟩
  | n + 1 => by
    have f_written : Cal P w K mg base n "written" (spWrX K CT n) [] := cal_of (written_x F B g b x_NoTree n) g F.kp b
    refine F.ok sc_written (fun vs H Q E h => ?_) (fun cdv A outer s H vs Q E hr h => ?_)
    · rcases h with ⟨v, w, d, m, rfl, _⟩ | ⟨v, d, k, rfl, _⟩
      · rfl
      · rfl
    · refine ⟨_, (pss_cons (ps_if (PW.pt (pw_or (pt_not (pt_val (pe_callB call_isi (by rfl) B.isinstance (by first | rfl | decide +kernel) (pa_cons (pv 0) (pa_cons (pe_bltn (v := .ty "tuple") (by rfl) B.tuple (by first | rfl | decide +kernel) rfl) pa_nil))))) (pw_or1 (pt_cmpR op_gt (pv 1) pe_int (nomark _)))))
      (pss_one (ps_raise rfl tkOf x_NoTree.mk'))
      pss_nil)
    (pss_one (ps_ret (pe_join pe_str (pe_lcX rfl rfl tkOf (own := [("tree", 2)]) (g := gName 2) rfl sc_written.nd (pi_tup (pv 0)) (blkOk_by (own := [("tree", 2)]) (N := N_written) (sc := defScope s_written) (by decide +kernel)) (fun _ _ _ _ _ => (pg_name (i := 2) sc_written.nd rfl (by first | exact Or.inl rfl | exact Or.inr rfl))) (fun _ _ _ _ _ => pts_nil) (fun _ _ _ _ _ => (pe_op op_add_str (pe_op op_add_str pe_str (pe_cal f_written hr (Nat.le_refl _) (by rfl) passLX (pa_cons (pv 2) (pa_cons (pe_op op_add (pv 1) pe_int) pa_nil)))) pe_str))))))), ?_⟩
      have hrec : ∀ {x : V} {a : V} {d : Nat} {u : List Bool} {H2 : Hp}, Gr K H2 x u → 1 ≤ n → hillB (some (n - 1)) u = true → u.length ≤ 1000 → d + n ≤ 200 → Ev (tOp (fun x y H Q => ∃ i j, x = .str i ∧ y = .str j ∧ i.length + j.length ≤ sizeLine ∧ Q (.str (i ++ j)) H) (tOp (fun x y H Q => ∃ i j, x = .str i ∧ y = .str j ∧ i.length + j.length ≤ sizeLine ∧ Q (.str (i ++ j)) H) (tC (.str "u")) (tCall (spWrX K CT n) [] E (tCons (tVar 2) (tCons (tOp (rI0 fun i j => .int (i + j)) (tVar 1) (tC (.int 1))) tNil)))) (tC (.str "d"))) ((wipe [some a, some (.int (d : Int)), none] [2]).set 2 (some x)) H2 (.str (rowS (hillOf u []))) := fun {x a d u H2} hG h1 hc hl hd => by
        refine ev_is (ev_addR (a := [true] ++ u) (b := [false]) (ev_addR (a := [true]) (b := u) (ev_is ev_c (by rw [lit_u])) (ev_call (ea_cons (ev_var rfl) (ea_cons (ev_op (ev_var rfl) ev_c rv_I0) ea_nil)) fun H3 e3 Q q _ => .inl ⟨x, u, d + 1, n - 1, rfl, by omega, hG.mono e3, hc, hl, by omega, q⟩) (by show 1 + _ ≤ _; omega)) (ev_is ev_c (by rw [lit_d])) (by show (u.length + 1) + 1 ≤ _; omega)) rfl
      rcases h with ⟨v, w, d, m, rfl, hm, hG, hw, hl, hd, q⟩ | ⟨v, d, k, rfl, hB, hk, hd, qx⟩
      · have hmn : n = m := by omega
        subst hmn
        obtain ⟨a, vs, rfl, ha, us, rfl, hlen, hT⟩ := hG.grs
        have hun : ∀ u ∈ us, hillB none u = true := fun u hu => by
          obtain ⟨i, hi, e⟩ := List.getElem_of_mem hu
          exact (hT i _ u (List.getElem?_eq_getElem (by omega)) (by rw [List.getElem?_eq_getElem hi, e])).hill
        have hpart := ceil_parts hun hw
        have hsum : ∀ l : List (List Bool), l.length ≤ ((l.map fun u => hillOf u []).flatten).length ∧ ∀ u ∈ l, u.length + 2 ≤ ((l.map fun u => hillOf u []).flatten).length := fun l => by
          induction l with
          | nil => exact ⟨Nat.le_refl _, fun u h => nomatch h⟩
          | cons u l ih =>
            have e : (hillOf u []).length = u.length + 2 := by simp [hillOf]
            rw [List.map_cons, List.flatten_cons, List.length_append, List.length_cons, e]
            refine ⟨by have := ih.1; omega, fun x hx => ?_⟩
            rcases List.mem_cons.mp hx with h | h
            · rw [h]; omega
            · have := ih.2 x h; omega
        obtain ⟨hs1, hs2⟩ := hsum us
        refine q_when (b := false) (et_is (et_or (a := false) (b := false) (et_is (et_not (et_B (ev_isTup (ev_var rfl) ev_c ha))) rfl) (fun _ => et_is (et_test (ev_op (ev_var rfl) ev_c rv_I0)) (decide_eq_false (by omega)))) rfl) (fun z => nomatch z) fun _ H1 e1 => ?_
        refine s_ret (ev_is (ev_joinL (ys := (us.map fun u => hillOf u []).map rowS) ev_c (el_is (el_lc1 (n := vs.length) (Z := fun i x => vs[i]? = some x) (fun _ => true) (fun i => .str (rowS (hillOf (us.getD i []) []))) (ei_tup (ev_var rfl) (ex_t e1 ha)) (by omega) (fun x => rfl) fun i H2 x hi e2 hx => ⟨et_yes, fun _ => ?_⟩) ?_) ?_) (by rw [join_rows])) fun H2 e2 => q H2 (e1.trans e2)
        · have hi2 : i < us.length := by omega
          have hgd : us[i]? = some (us.getD i []) := by rw [List.getD, List.getElem?_eq_getElem hi2]; rfl
          have hmem : us.getD i [] ∈ us := List.mem_of_getElem? hgd
          obtain ⟨p1, p2⟩ := hpart _ hmem
          have hul := hs2 _ hmem
          exact hrec (((hT i x _ hx hgd).mono e1).mono e2) p1 p2 (by omega) hd
        · rw [hlen, given_all us (fun u => .str (rowS (hillOf u []))) _ fun k u hu => by simp [List.getD, hu], List.map_map, List.map_map]
          rfl
        · have h1 : (((us.map fun u => hillOf u []).map rowS).map (fun x => x.length)).sum ≤ ((us.map fun u => hillOf u []).map rowS).length * 1002 := sum_le (f := fun x : Str => x.length) fun z hz => by
            obtain ⟨y, hy, rfl⟩ := List.mem_map.mp hz
            obtain ⟨u, hu, rfl⟩ := List.mem_map.mp hy
            have := hs2 u hu
            rw [rowS_len]
            show (hillOf u []).length ≤ 1002
            have e : (hillOf u []).length = u.length + 2 := by simp [hillOf]
            omega
          rw [List.length_map, List.length_map] at h1 ⊢
          have h4 : us.length * 1002 ≤ 1000 * 1002 := Nat.mul_le_mul_right _ (by omega)
          show _ + _ * 0 ≤ _
          omega
      · cases hB with
        | leaf h =>
          exact q_when (b := true) (et_is (et_or (a := true) (b := true) (et_is (et_not (et_B (ev_noTup (ev_var rfl) ev_c h))) rfl) (fun z => nomatch z)) rfl) (fun _ H1 e1 => qx H1 e1) (fun z => nomatch z)
        | @node k i a vs x ha hvl hi hb hg =>
          refine q_when (b := false) (et_is (et_or (a := false) (b := false) (et_is (et_not (et_B (ev_isTup (ev_var rfl) ev_c ha))) rfl) (fun _ => et_is (et_test (ev_op (ev_var rfl) ev_c rv_I0)) (decide_eq_false (by omega)))) rfl) (fun z => nomatch z) fun _ H1 e1 => ?_
          have hil := (List.getElem?_eq_some_iff.mp hi).1
          obtain ⟨us, hus⟩ : ∃ us : Nat → List Bool, ∀ (j : Nat) (v : V), j < i → vs[j]? = some v → Gr K H v (us j) ∧ (us j).length ≤ 150 := by
            have : ∀ j, ∃ u : List Bool, ∀ v : V, j < i → vs[j]? = some v → Gr K H v u ∧ u.length ≤ 150 := fun j => by
              by_cases hj : j < i
              · obtain ⟨u, z⟩ := hg j _ hj (List.getElem?_eq_getElem (by omega))
                refine ⟨u, fun v _ hv => ?_⟩
                rw [List.getElem?_eq_getElem (by omega)] at hv
                cases hv
                exact z
              · exact ⟨[], fun v h => absurd h hj⟩
            exact ⟨fun j => (this j).choose, fun j v hj hv => (this j).choose_spec v hj hv⟩
          refine rs_ret (rx_join ev_c (rx_lc1 (n := vs.length) (k := i) (Z := fun j x => vs[j]? = some x) (fun j => .str (rowS (hillOf (us j) []))) (ei_tup (ev_var rfl) (ex_t e1 ha)) (by omega) hil (fun x => rfl) fun j H2 y hj e2 hy => ⟨et_yes, fun hlt => ?_, fun hje => ?_⟩))
          · obtain ⟨z1, z2⟩ := hus j y hlt hy
            exact hrec ((z1.mono e1).mono e2) (by omega) (ceil_len z1.hill (by omega)) (by omega) (by omega)
          · subst hje
            rw [hi] at hy
            cases hy
            exact rx_opL (rx_opR ev_c (rx_call (ea_cons (ev_var rfl) (ea_cons (ev_op (ev_var rfl) ev_c rv_I0) ea_nil)) fun H3 e3 Q => .inr ⟨x, d + 1, k, rfl, ((hb.mono e1).mono e2).mono e3, by omega, by omega, fun H4 e4 => qx H4 (((e1.trans e2).trans e3).trans e4)⟩))
theorem ok_written {CT : Addr} (F : FnP K "written" s_written [] f fd) (B : Blt mg) (g_written : mg "written" = some (.ref f)) (b_written : Binds K fd ps_written []) (x_NoTree : Exc K mg "NoTree" CT) : FnOk P w K mg base (L2.CX P w) 201 f fd ps_written (spWrX K CT 201) := written_x F B g_written b_written x_NoTree 201
theorem ok_unfolded {CT : Addr} (F : FnP K "unfolded" s_unfolded [] f fd) (f_written : Cal P w K mg base 201 "written" (spWrX K CT 201) []) : FnOk P w K mg base (L2.CX P w) 202 f fd ps_unfolded (spUnfX K CT) := by
  refine F.ok sc_unfolded (fun vs H Q E h => ?_) (fun cdv A outer s H vs Q E hr h => ?_)
  · rcases h with ⟨v, w, rfl, _⟩ | ⟨v, k, rfl, _⟩
    · rfl
    · rfl
  · refine ⟨_, (pss_one (ps_ret (pe_cal f_written hr (by decide) (by rfl) hxOf (pa_cons (pv 0) (pa_cons pe_int pa_nil))))), ?_⟩
    rcases h with ⟨v, w, rfl, hG, hl, q⟩ | ⟨v, k, rfl, hB, hk, qx⟩
    · exact s_ret (v := .str (rowS w)) (ev_call (ea_cons (ev_var rfl) (ea_cons ev_c ea_nil)) fun H3 e3 Q q _ => .inl ⟨v, w, 0, 200, rfl, rfl, hG.mono e3, ceil_len hG.hill (by omega), by omega, by omega, q⟩) q
    · exact rs_ret (rx_call (ea_cons (ev_var rfl) (ea_cons ev_c ea_nil)) fun H3 e3 Q => .inr ⟨v, 0, k, rfl, hB.mono e3, by omega, by omega, fun H4 e4 => qx H4 (e3.trans e4)⟩)
theorem ev_unfG {σ : L2.St} {H : Hp} {ta : TE} {w : List Bool} {CT : Addr} {E : XK} (hl : w.length ≤ 401) (h : EvG ta σ H (fun v H' => Gr K H' v w)) : Ev (tCall (spUnfX K CT) [] E (tCons ta tNil)) σ H (.str (rowS w)) := fun H1 e Q q =>
  h H1 e _ fun v H2 e2 g => .inl ⟨v, w, rfl, g, hl, fun H3 e3 => q H3 (e2.trans e3)⟩
theorem ev_unfV {σ : L2.St} {H : Hp} {ta : TE} {v : V} {w : List Bool} {CT : Addr} {E : XK} (hl : w.length ≤ 401) (g : Gr K H v w) (h : Ev ta σ H v) : Ev (tCall (spUnfX K CT) [] E (tCons ta tNil)) σ H (.str (rowS w)) := fun H1 e Q q =>
  h H1 e _ fun H2 e2 => .inl ⟨v, w, rfl, (g.mono e).mono e2, hl, fun H3 e3 => q H3 (e2.trans e3)⟩
end
end Hl
/-! The law's own grove, its asking; groves compared, put together, spoilt. -/
namespace Hl
open PySem PySem.Spec PyProof.Rows L2 Evl
abbrev s_law_grove : Stmt := topS 23
abbrev N_law_grove : List Str := ["_law_row_here", "_law_stack", "_law_sign", "_law_tree"]
abbrev ps_law_grove : List Str := ["_law_row_here"]
theorem sc_law_grove : FnScope N_law_grove ps_law_grove (defScope s_law_grove) := ⟨rfl, rfl, rfl, by decide +kernel, rfl, by decide +kernel, by decide +kernel⟩

abbrev s_law_refused : Stmt := topS 24
abbrev N_law_refused : List Str := ["_law_grove_here", "_law_found", "_law_error"]
abbrev ps_law_refused : List Str := ["_law_grove_here"]
theorem sc_law_refused : FnScope N_law_refused ps_law_refused (defScope s_law_refused) := ⟨rfl, rfl, rfl, by decide +kernel, rfl, by decide +kernel, by decide +kernel⟩

/-! groves as plain data -/
inductive GD : List Bool → PyData → Prop
  | mk {us : List (List Bool)} {ds : List PyData} (hl : ds.length = us.length) (t : ∀ (i : Nat) (d : PyData) (u : List Bool), ds[i]? = some d → us[i]? = some u → GD u d) : GD ((us.map fun u => hillOf u []).flatten) (.tuple ds)
theorem dp_all {K : PySem.W.Frag} {H : Hp} : ∀ (vs : List V) (us : List (List Bool)), vs.length = us.length → (∀ (i : Nat) (v : V) (u : List Bool), vs[i]? = some v → us[i]? = some u → ∃ d, Dp K H v d ∧ GD u d) →
    ∃ ds : List PyData, DpAll K H vs ds ∧ ds.length = us.length ∧ ∀ (i : Nat) (d : PyData) (u : List Bool), ds[i]? = some d → us[i]? = some u → GD u d
  | [], [], _, _ => ⟨[], .nil, rfl, fun i d u h => by cases i <;> cases h⟩
  | v :: vs, u :: us, hl, h => by
    obtain ⟨d, h1, h2⟩ := h 0 v u rfl rfl
    obtain ⟨ds, g1, g2, g3⟩ := dp_all vs us (by simpa using hl) fun i v' u' a b => h (i + 1) v' u' a b
    refine ⟨d :: ds, .cons h1 g1, by simp [g2], fun i d' u' a b => ?_⟩
    cases i with
    | zero =>
      cases a
      cases b
      exact h2
    | succ i => exact g3 i d' u' a b
  | [], _ :: _, hl, _ => by cases hl
  | _ :: _, [], hl, _ => by cases hl
theorem gr_gd {K : PySem.W.Frag} {H : Hp} {v : V} {w : List Bool} (h : Gr K H v w) : ∃ d, Dp K H v d ∧ GD w d := by
  induction h with
  | mk h hl t ih =>
    obtain ⟨ds, g1, g2, g3⟩ := dp_all _ _ hl ih
    exact ⟨.tuple ds, .tup h g1, .mk g2 g3⟩
theorem GD.hill {w : List Bool} {d : PyData} (h : GD w d) : hillB none w = true := by
  induction h with
  | mk hl t ih =>
    refine hill_flat fun x hx => ?_
    obtain ⟨u, hu, rfl⟩ := List.mem_map.mp hx
    obtain ⟨i, hi, e⟩ := List.getElem_of_mem hu
    exact hillOf_hill (ih i _ u (List.getElem?_eq_getElem (by omega)) (by rw [List.getElem?_eq_getElem hi, e])) (hill_nil none)
theorem gd_mem {us : List (List Bool)} {ds : List PyData} (hl : ds.length = us.length) (t : ∀ (i : Nat) (d : PyData) (u : List Bool), ds[i]? = some d → us[i]? = some u → GD u d) : ∀ u ∈ us, hillB none u = true := fun u hu => by
  obtain ⟨i, hi, e⟩ := List.getElem_of_mem hu
  exact (t i _ u (List.getElem?_eq_getElem (by omega)) (by rw [List.getElem?_eq_getElem hi, e])).hill
theorem GD.uniq {w : List Bool} {d : PyData} (h : GD w d) : ∀ {w' : List Bool} {d' : PyData}, GD w' d' → w = w' → d = d' := by
  induction h with
  | @mk us ds hl t ih =>
    intro w' d' h' e
    cases h' with
    | @mk us' ds' hl' t' =>
      have e2 := parts_inj (gd_mem hl t) (gd_mem hl' t') e
      subst e2
      congr 1
      refine List.ext_getElem? fun i => ?_
      by_cases hi : i < us.length
      · have a1 : ds[i]? = some (ds[i]'(by omega)) := List.getElem?_eq_getElem (by omega)
        have a2 : ds'[i]? = some (ds'[i]'(by omega)) := List.getElem?_eq_getElem (by omega)
        have a3 : us[i]? = some us[i] := List.getElem?_eq_getElem hi
        rw [a1, a2, ih i _ _ a1 a3 (t' i _ _ a2 a3) rfl]
      · rw [List.getElem?_eq_none (by omega), List.getElem?_eq_none (by omega)]
theorem depth_le : ∀ {ds : List PyData} {m : Nat}, (∀ d ∈ ds, PyData.depth d ≤ m) → PyData.depthAll ds ≤ m
  | [], m, _ => by simp [PyData.depthAll]
  | d :: ds, m, h => by
    have h1 := h d List.mem_cons_self
    have h2 := depth_le fun x hx => h x (List.mem_cons_of_mem _ hx)
    simp only [PyData.depthAll]
    omega
theorem lay_all : ∀ {ds : List PyData}, (∀ d ∈ ds, PyData.canLay0 d = true) → PyData.canLayAll0 ds = true
  | [], _ => by simp [PyData.canLayAll0]
  | d :: ds, h => by
    have h1 := h d List.mem_cons_self
    have h2 := lay_all fun x hx => h x (List.mem_cons_of_mem _ hx)
    simp [PyData.canLayAll0, h1, h2]
theorem gd_shape {w : List Bool} {d : PyData} (h : GD w d) : ∀ {m : Nat}, hillB (some m) w = true → PyData.canLay0 d = true ∧ PyData.depth d ≤ m + 1 := by
  induction h with
  | @mk us ds hl t ih =>
    intro m hm
    have hp := ceil_parts (gd_mem hl t) hm
    have key : ∀ d ∈ ds, PyData.canLay0 d = true ∧ PyData.depth d ≤ m := fun d hd => by
      obtain ⟨i, hi, e⟩ := List.getElem_of_mem hd
      have a1 : ds[i]? = some d := by rw [List.getElem?_eq_getElem hi, e]
      have a3 : us[i]? = some (us[i]'(by omega)) := List.getElem?_eq_getElem (by omega)
      obtain ⟨p1, p2⟩ := hp _ (List.mem_of_getElem? a3)
      obtain ⟨q1, q2⟩ := ih i d _ a1 a3 p2
      exact ⟨q1, by omega⟩
    refine ⟨?_, ?_⟩
    · simp only [PyData.canLay0]
      exact lay_all fun d hd => (key d hd).1
    · have := depth_le fun d hd => (key d hd).2
      simp only [PyData.depth]
      omega
theorem gd_shaped {w : List Bool} {d : PyData} {m : Nat} (h : GD w d) (hm : hillB (some m) w = true) (h63 : m ≤ 63) : SeqAt.shaped d = true := by
  obtain ⟨h1, h2⟩ := gd_shape h hm
  show (PyData.canLay0 d && decide (PyData.depth d ≤ 64)) = true
  rw [h1, decide_eq_true (by omega)]
  rfl
section
variable {K : PySem.W.Frag} {σ : L2.St} {H : Hp} {ta tb te : TE} {w u : List Bool}
theorem ev_neGr {m : Nat} (hm : hillB (some m) w = true) (h63 : m ≤ 63) (ha : EvG ta σ H (fun x H' => Gr K H' x w)) (hb : ∀ H1, Ex H H1 → EvG tb σ H1 (fun x H' => Gr K H' x w)) : Ev (tOp (rNeD K) ta tb) σ H (.bl false) := fun H1 e Q q =>
  ha H1 e _ fun x H2 e2 gx => hb H2 (e.trans e2) H2 (Ex.refl H2) _ fun y H3 e3 gy => by
    obtain ⟨d, dx, gd⟩ := gr_gd (gx.mono e3)
    obtain ⟨d', dy, gd'⟩ := gr_gd gy
    have ed := gd.uniq gd' rfl
    subst ed
    have sh := gd_shaped gd hm h63
    exact ⟨d, d, dx, dy, sh, sh, by rw [eqv_self sh]; exact q H3 (e2.trans e3)⟩
theorem ev_eqGr {m : Nat} (hm : hillB (some m) w = true) (h63 : m ≤ 63) (ha : EvG ta σ H (fun x H' => Gr K H' x w)) (hb : ∀ H1, Ex H H1 → EvG tb σ H1 (fun x H' => Gr K H' x w)) : Ev (tOp (rEqD K) ta tb) σ H (.bl true) := fun H1 e Q q =>
  ha H1 e _ fun x H2 e2 gx => hb H2 (e.trans e2) H2 (Ex.refl H2) _ fun y H3 e3 gy => by
    obtain ⟨d, dx, gd⟩ := gr_gd (gx.mono e3)
    obtain ⟨d', dy, gd'⟩ := gr_gd gy
    have ed := gd.uniq gd' rfl
    subst ed
    have sh := gd_shaped gd hm h63
    exact ⟨d, d, dx, dy, sh, sh, by rw [eqv_self sh]; exact q H3 (e2.trans e3)⟩
theorem eg_grV {v : V} {i : Nat} (g : Gr K H v w) (h : σ[i]? = some (some v)) : EvG (tVar i) σ H (fun x H' => Gr K H' x w) := fun H1 e Q q => ⟨v, h, q v H1 (Ex.refl H1) (g.mono e)⟩
/-! tuples of things that are known -/
def SeqV (K : PySem.W.Frag) (xs : List V) (v : V) (H : Hp) : Prop := ∃ a, v = .ref a ∧ SqT K H a xs
theorem SeqV.mono {H' : Hp} {xs : List V} {v : V} (h : SeqV K xs v H) (e : Ex H H') : SeqV K xs v H' := let ⟨a, h1, h2⟩ := h; ⟨a, h1, ex_t e h2⟩
theorem eg_seqCat {xs ys : List V} (hl : xs.length + ys.length ≤ 100000) (ha : EvG ta σ H (SeqV K xs)) (hb : ∀ H1, Ex H H1 → EvG tb σ H1 (SeqV K ys)) : EvG (tOp (rCatA K) ta tb) σ H (SeqV K (xs ++ ys)) := fun H1 e Q q =>
  ha H1 e _ fun x H2 e2 gx => hb H2 (e.trans e2) H2 (Ex.refl H2) _ fun y H3 e3 gy => by
    obtain ⟨a, rfl, hxa⟩ := gx.mono e3
    obtain ⟨b, rfl, hyb⟩ := gy
    refine ⟨a, b, xs, ys, rfl, rfl, hxa, hyb, sz_of hl, fun h => ?_, fun _ h => ?_, fun _ _ p np => ?_⟩
    · subst h
      exact q _ _ (e2.trans e3) ⟨b, rfl, hyb⟩
    · subst h
      exact q _ _ (e2.trans e3) ⟨a, rfl, by rw [List.append_nil]; exact hxa⟩
    · exact q _ _ ((e2.trans e3).trans (Ex.new np)) ⟨p, rfl, st_of upd_same⟩
theorem eg_seqTup {tA : TA} {vs : List V} (h : EvA tA σ H vs) (hl : vs.length ≤ 100000) : EvG (tTup tA) σ H (SeqV K vs) := fun H1 e Q q =>
  h H1 e _ fun H2 e2 => ⟨sz_of hl, fun p np => q _ _ (e2.trans (Ex.new np)) ⟨p, rfl, st_of upd_same⟩⟩
theorem eg_seqSl {tl th : TO} {a : Addr} {xs : List V} {lo hi : Option Int} (h : Ev te σ H (.ref a)) (h1 : EvO tl σ H lo) (h2 : EvO th σ H hi) (hs : SqT K H a xs) : EvG (tSl (rSlA K) te tl th) σ H (SeqV K (cutV xs lo hi)) := fun H1 e Q q =>
  h H1 e _ fun H2 e2 => h1 H2 (e.trans e2) _ fun H3 e3 => h2 H3 ((e.trans e2).trans e3) _ fun H4 e4 => by
    have hs4 := ex_t (((e.trans e2).trans e3).trans e4) hs
    refine ⟨a, xs, rfl, hs4, fun hw => ?_, fun _ p np => ?_⟩
    · refine q _ _ ((e2.trans e3).trans e4) ⟨a, rfl, ?_⟩
      unfold cutV
      rw [hw.1, hw.2, List.drop_zero, Nat.sub_zero, List.take_length]
      exact hs4
    · exact q _ _ (((e2.trans e3).trans e4).trans (Ex.new np)) ⟨p, rfl, st_of upd_same⟩
theorem EvG.imp {P P' : V → Hp → Prop} (h : EvG te σ H P) (k : ∀ v H1, Ex H H1 → P v H1 → P' v H1) : EvG te σ H P' := fun H1 e Q q => h H1 e Q fun v H2 e2 p => q v H2 e2 (k v H2 (e.trans e2) p)
theorem eg_seqV {v : V} {xs : List V} {i : Nat} (g : SeqV K xs v H) (h : σ[i]? = some (some v)) : EvG (tVar i) σ H (SeqV K xs) := fun H1 e Q q => ⟨v, h, q v H1 (Ex.refl H1) (g.mono e)⟩
theorem Grs.len {vs : List V} (g : Grs K H vs w) : vs.length ≤ w.length := by
  obtain ⟨us, rfl, h2, _⟩ := g
  rw [h2]
  have key : ∀ l : List (List Bool), l.length ≤ ((l.map fun u => hillOf u []).flatten).length := fun l => by
    induction l with
    | nil => exact Nat.le_refl _
    | cons u l ih =>
      rw [List.map_cons, List.flatten_cons, List.length_append, List.length_cons]
      have e : (hillOf u []).length = u.length + 2 := by simp [hillOf]
      omega
  exact key us
theorem Gr.seq {v : V} (g : Gr K H v w) : ∃ vs, SeqV K vs v H ∧ Grs K H vs w := by
  obtain ⟨a, vs, rfl, h1, h2⟩ := g.grs
  exact ⟨vs, ⟨a, rfl, h1⟩, h2⟩
theorem SeqV.gr {v : V} {vs : List V} (h : SeqV K vs v H) (g : Grs K H vs w) : Gr K H v w := by
  obtain ⟨a, rfl, h1⟩ := h
  exact g.gr h1
/-- groves put together -/
theorem eg_grCat (hl : u.length + w.length ≤ 1000) (ha : EvG ta σ H (fun x H' => Gr K H' x u)) (hb : ∀ H1, Ex H H1 → EvG tb σ H1 (fun x H' => Gr K H' x w)) : EvG (tOp (rCatA K) ta tb) σ H (fun x H' => Gr K H' x (u ++ w)) := fun H1 e Q q =>
  ha H1 e _ fun x H2 e2 gx => hb H2 (e.trans e2) H2 (Ex.refl H2) _ fun y H3 e3 gy => by
    obtain ⟨xs, sx, gxs⟩ := (gx.mono e3).seq
    obtain ⟨ys, sy, gys⟩ := gy.seq
    have c1 := gxs.len
    have c2 := gys.len
    have := eg_seqCat (σ := σ) (H := H3) (ta := tC x) (tb := tC y) (by omega) (fun H1 e Q q => q x H1 (Ex.refl H1) (sx.mono e)) fun H1 e1 => fun H2 e2 Q q => q y H2 (Ex.refl H2) (sy.mono (e1.trans e2))
    exact this H3 (Ex.refl H3) Q fun v H4 e4 s4 => q v H4 ((e2.trans e3).trans e4) (s4.gr ((gxs.app gys).mono e4))
/-- (grove,), (grove, grove) -/
theorem eg_grOne (ha : EvG ta σ H (fun x H' => Gr K H' x u)) : EvG (tTup (tCons ta tNil)) σ H (fun x H' => Gr K H' x (hillOf u [])) := fun H1 e Q q =>
  ha H1 e _ fun x H2 e2 gx => ⟨sz_of (by show 1 ≤ 100000; decide), fun p np => q _ _ (e2.trans (Ex.new np)) ((Grs.nil.snoc (gx.mono (Ex.new np))).gr (st_of upd_same))⟩
theorem eg_grTwo (ha : EvG ta σ H (fun x H' => Gr K H' x u)) (hb : ∀ H1, Ex H H1 → EvG tb σ H1 (fun x H' => Gr K H' x w)) : EvG (tTup (tCons ta (tCons tb tNil))) σ H (fun x H' => Gr K H' x (hillOf u [] ++ hillOf w [])) := fun H1 e Q q =>
  ha H1 e _ fun x H2 e2 gx => hb H2 (e.trans e2) H2 (Ex.refl H2) _ fun y H3 e3 gy => ⟨sz_of (by show 2 ≤ 100000; decide), fun p np => q _ _ ((e2.trans e3).trans (Ex.new np)) (((Grs.nil.snoc ((gx.mono e3).mono (Ex.new np))).snoc (gy.mono (Ex.new np))).gr (st_of upd_same))⟩
theorem eg_grNil : EvG (tTup tNil) σ H (fun x H' => Gr K H' x []) := fun H1 e Q q => ⟨sz_of (by show 0 ≤ 100000; decide), fun p np => q _ _ (Ex.new np) (Grs.nil.gr (st_of upd_same))⟩
/-- l[-1] = e -/
theorem s_setLastG {D : Ends} {to ti : TE} {l : Addr} {xs : List V} {y : V} {P : V → Hp → Prop} (hl : H l = some (.lst (xs ++ [y]))) (h : EvG te σ H P) (ho : ∀ H1, Ev to σ H1 (.ref l)) (hi : ∀ H1, Ev ti σ H1 (.int (-1))) (hP : ∀ v H1 H2, Ex H1 H2 → P v H1 → P v H2) (k : ∀ v H1, Ex H H1 → P v H1 → D.nx σ (upd H1 l (.lst (xs ++ [v])))) :
    tAsg te (gSub to ti rSetL) D σ H := h H (Ex.refl H) _ fun v H1 e1 pv => ho H1 H1 (Ex.refl H1) _ fun H2 e2 => hi H1 H2 e2 _ fun H3 e3 =>
  ⟨l, xs ++ [y], -1, xs.length, rfl, rfl, ((e1.trans e2).trans e3) l _ hl, by
    rw [List.length_append]
    unfold ixN
    rw [if_neg (by decide), if_pos (by rw [List.length_singleton]; omega)]
    congr 1
    show (-1 + ((xs.length + 1 : Nat) : Int)).toNat = xs.length
    omega, by
    have e : (xs ++ [y]).set xs.length v = xs ++ [v] := by
      rw [List.set_append_right _ _ (Nat.le_refl _), Nat.sub_self]
      rfl
    rw [e]
    exact k v H3 ((e1.trans e2).trans e3) (hP v _ _ (e2.trans e3) pv)⟩
end
/-! reading a row from its end: what the stack holds, the bottom first -/
def sufRow : List (List Bool) → List Bool
  | [] => []
  | [w] => w
  | w :: v :: ws => sufRow (v :: ws) ++ false :: w
theorem sufRow_push : ∀ ws : List (List Bool), ws ≠ [] → sufRow (ws ++ [[]]) = false :: sufRow ws
  | [], h => absurd rfl h
  | [w], _ => rfl
  | w :: v :: ws, _ => by
    have ih := sufRow_push (v :: ws) (by simp)
    show sufRow (v :: ws ++ [[]]) ++ false :: w = false :: (sufRow (v :: ws) ++ false :: w)
    rw [ih]
    rfl
theorem sufRow_pop : ∀ (ws : List (List Bool)) (v u : List Bool), sufRow (ws ++ [hillOf u v]) = true :: sufRow (ws ++ [v, u])
  | [], v, u => rfl
  | [w], v, u => by
    show hillOf u v ++ false :: w = true :: ((u ++ false :: v) ++ false :: w)
    rfl
  | w :: x :: ws, v, u => by
    have ih := sufRow_pop (x :: ws) v u
    show sufRow (x :: ws ++ [hillOf u v]) ++ false :: w = true :: (sufRow (x :: ws ++ [v, u]) ++ false :: w)
    rw [ih]
    rfl
theorem sufRow_hgt : ∀ ws : List (List Bool), (∀ w ∈ ws, hgt w = 0) → hgt (sufRow ws) + (ws.length : Int) = 1 ∨ ws = []
  | [], _ => .inr rfl
  | [w], h => .inl (by show hgt w + 1 = 1; rw [h w (by simp)]; rfl)
  | w :: v :: ws, h => by
    rcases sufRow_hgt (v :: ws) (fun x hx => h x (List.mem_cons_of_mem _ hx)) with ih | ih
    · refine .inl ?_
      show hgt (sufRow (v :: ws) ++ false :: w) + ((v :: ws).length + 1 : Nat) = 1
      rw [hgt_app]
      show hgt (sufRow (v :: ws)) + (st false + hgt w) + ((v :: ws).length + 1 : Nat) = 1
      rw [h w (by simp)]
      have : st false = -1 := rfl
      omega
    · cases ih
def spGrove7 (K : PySem.W.Frag) : Sp := fun vs H Q _ => ∃ w : List Bool, vs = [.str (rowS w)] ∧ w.length ≤ 1000 ∧ hillB none w = true ∧ rg (fun v H' => Gr K H' v w) H Q
def spRef7 (K : PySem.W.Frag) : Sp := fun vs H Q _ => ∃ (v : V) (k : Nat), vs = [v] ∧ Bad K H k v ∧ k ≤ 9 ∧ RetV (.bl true) H Q
section
variable {P : Program} {w : World} {K : PySem.W.Frag} {mg : Str → Option Value} {base : Heap} {f : Addr} {fd : FuncData}
/-- the groves of the stack -/
def GrvAt (K : PySem.W.Frag) (H : Hp) (vs : List V) (ws : List (List Bool)) : Prop := vs.length = ws.length ∧ ∀ (i : Nat) (v : V) (u : List Bool), vs[i]? = some v → ws[i]? = some u → Gr K H v u
theorem GrvAt.mono {H H' : Hp} {vs : List V} {ws : List (List Bool)} (h : GrvAt K H vs ws) (e : Ex H H') : GrvAt K H' vs ws := ⟨h.1, fun i v u a b => (h.2 i v u a b).mono e⟩
theorem GrvAt.upd {H : Hp} {m : Addr} {xs zs : List V} {vs : List V} {ws : List (List Bool)} (hm : H m = some (.lst xs)) (h : GrvAt K H vs ws) : GrvAt K (upd H m (.lst zs)) vs ws := ⟨h.1, fun i v u a b => (h.2 i v u a b).upd hm⟩
theorem GrvAt.snoc {H : Hp} {vs : List V} {v : V} {ws : List (List Bool)} {u : List Bool} (h : GrvAt K H vs ws) (g : Gr K H v u) : GrvAt K H (vs ++ [v]) (ws ++ [u]) := by
  refine ⟨by rw [List.length_append, List.length_append, h.1]; rfl, fun i x y a b => ?_⟩
  by_cases hi : i < vs.length
  · rw [List.getElem?_append_left hi] at a
    rw [List.getElem?_append_left (by rw [← h.1]; exact hi)] at b
    exact h.2 i x y a b
  · have hl := (List.getElem?_eq_some_iff.mp a).1
    rw [List.length_append, List.length_singleton] at hl
    have : i = vs.length := by omega
    subst this
    rw [List.getElem?_append_right (Nat.le_refl _), Nat.sub_self] at a
    rw [h.1, List.getElem?_append_right (Nat.le_refl _), Nat.sub_self] at b
    cases a
    cases b
    exact g
theorem GrvAt.unsnoc {H : Hp} {vs : List V} {v : V} {ws : List (List Bool)} {u : List Bool} (h : GrvAt K H (vs ++ [v]) (ws ++ [u])) : GrvAt K H vs ws ∧ Gr K H v u := by
  obtain ⟨h1, h2⟩ := h
  rw [List.length_append, List.length_append] at h1
  have hl : vs.length = ws.length := by simpa using h1
  refine ⟨⟨hl, fun i x y a b => h2 i x y (by rw [List.getElem?_append_left (List.getElem?_eq_some_iff.mp a).1]; exact a) (by rw [List.getElem?_append_left (List.getElem?_eq_some_iff.mp b).1]; exact b)⟩, h2 vs.length v u ?_ ?_⟩
  · rw [List.getElem?_append_right (Nat.le_refl _), Nat.sub_self]; rfl
  · rw [hl, List.getElem?_append_right (Nat.le_refl _), Nat.sub_self]; rfl
theorem ok_law_grove (F : FnP K "_law_grove" s_law_grove [] f fd) (B : Blt mg) : FnOk P w K mg base (L2.CX P w) 1 f fd ps_law_grove (spGrove7 K) := by
  refine F.ok sc_law_grove (fun vs H Q E h => ?_) (fun cdv A outer s H vs Q E hr h => ?_)
  · obtain ⟨u, rfl, _⟩ := h
    rfl
  · obtain ⟨u, rfl, hl, hu, q⟩ := h
    refine ⟨_, (pss_cons (ps_set (i := 1) sc_law_grove.nd rfl (by first | exact Or.inl rfl | exact Or.inr rfl) (pe_lst (pa_cons (pe_tup pa_nil) pa_nil)))
    (pss_cons (ps_for hpOf rfl (pi_str (pe_revS (pv 0))) (pg_name (i := 2) sc_law_grove.nd rfl (by first | exact Or.inl rfl | exact Or.inr rfl))
      (pss_one (ps_if (pt_cmpR op_eq (pv 2) pe_str (nomark _))
        (pss_one (ps_expr (pe_bm PySem.F.plainAttrs_list PySem.F.slot_list_append PySem.F.type_list_append mt_append (pv 1) (pa_cons (pe_tup pa_nil) pa_nil))))
        (pss_cons (ps_set (i := 3) sc_law_grove.nd rfl (by first | exact Or.inl rfl | exact Or.inr rfl) (pe_bm0 PySem.F.plainAttrs_list PySem.F.slot_list_pop PySem.F.type_list_pop mt_pop (pv 1)))
        (pss_one (ps_asg (pe_op op_catA (pe_tup (pa_cons (pv 3) pa_nil)) (pe_ix ix_list (pv 1) (pe_un un_neg pe_int) (fun _ _ => rfl))) (pg_sub (pv 1) (pe_un un_neg pe_int) set_list)))))))
    (pss_one (ps_ret (pe_ix ix_list (pv 1) pe_int (fun _ _ => rfl)))))), ?_⟩
    obtain ⟨u0, u1, _⟩ := hillB_iff.mp hu
    refine q_asgLU (xs := []) (eu_tup ea_nil (Nat.zero_le _)) fun t0 p H1 nt0 np ntp e1 ht0 hp => ?_
    have hsuf : ∀ i, i ≤ u.length → hgt ((u.reverse.take i).reverse) ≤ 0 := fun i hi => by
      have e : (u.reverse.take i).reverse = u.drop (u.length - i) := by
        rw [List.take_reverse, List.reverse_reverse]
      rw [e, hgt_drop, u0]
      have := u1 (u.length - i) (by omega)
      omega
    refine q_forStr (ev_revRow (by omega) (ev_var rfl)) (fun i σ' H' => ∃ (s2 s3 : Option V) (vs : List V) (ws : List (List Bool)), σ' = [some (.str (rowS u)), some (.ref p), s2, s3] ∧ Ex H H' ∧ H' p = some (.lst vs) ∧ GrvAt K H' vs ws ∧ sufRow ws = (u.reverse.take i).reverse ∧ ws ≠ [] ∧ vs.length ≤ i + 1)
      (fun H2 e2 => ⟨_, _, [.ref t0], [[]], rfl, e1.trans e2, e2 p _ hp, ⟨rfl, fun i v x a b => ?_⟩, rfl, by simp, Nat.le_refl _⟩) (fun i ch σ' H3 hch hP => ?_) (fun σ' H3 hP => ?_)
    · cases i with
      | zero =>
        cases a
        cases b
        exact Grs.nil.gr (st_of (e2 t0 _ ht0))
      | succ i => simp at a
    · obtain ⟨s2, s3, vs, ws, rfl, x1, hp3, hG, hrow, hne, hvl⟩ := hP
      obtain ⟨b, hb, rfl⟩ := row_sign hch
      have hi := (List.getElem?_eq_some_iff.mp hb).1
      rw [List.length_reverse] at hi
      have hnext : (u.reverse.take (i + 1)).reverse = b :: (u.reverse.take i).reverse := by rw [take_snoc hb, List.reverse_append]; rfl
      have hws0 : ∀ x ∈ ws, hgt x = 0 := fun x hx => by
        obtain ⟨j, hj, ej⟩ := List.getElem_of_mem hx
        have g := hG.2 j (vs[j]'(by rw [hG.1]; exact hj)) x (List.getElem?_eq_getElem (by rw [hG.1]; exact hj)) (by rw [List.getElem?_eq_getElem hj, ej])
        exact (hillB_iff.mp g.hill).1
      refine s_if (b := !b) (et_is (et_test (ev_op (ev_var rfl) ev_c (rv_eq rfl))) (sgS_d b)) (fun hbt H4 e4 => ?_) (fun hbf H4 e4 => ?_)
      · have hbf : b = false := by cases b <;> first | rfl | cases hbt
        subst hbf
        have hp4 := e4 p _ hp3
        refine s_appU hp4 (ev_var rfl) (ys := []) (eu_tup ea_nil (Nat.zero_le _)) (by omega) fun t H5 nt e5 ht => ?_
        have hp5 := e5 p _ hp4
        refine ⟨_, _, vs ++ [.ref t], ws ++ [[]], rfl, ((x1.trans e4).trans e5).mut np, upd_same, ((((hG.mono e4).mono e5).snoc (Grs.nil.gr (st_of ht))).upd hp5), ?_, by simp, by rw [List.length_append, List.length_singleton]; omega⟩
        rw [sufRow_push ws hne, hrow, hnext]
      · have hbt : b = true := by cases b <;> first | rfl | cases hbf
        subst hbt
        have hlen2 : 2 ≤ ws.length := by
          rcases sufRow_hgt ws hws0 with h | h
          · have h2 := hsuf (i + 1) (by omega)
            rw [hnext, ← hrow] at h2
            have h3 : hgt (true :: sufRow ws) = 1 + hgt (sufRow ws) := rfl
            omega
          · exact absurd h hne
        obtain ⟨ws0, a1, a2, hws⟩ : ∃ ws0 a1 a2, ws = ws0 ++ [a1] ++ [a2] := by
          rcases snoc_cases ws with e | ⟨x, l2, e⟩
          · rw [e] at hlen2; cases hlen2
          · rcases snoc_cases x with e' | ⟨x', l1, e'⟩
            · rw [e, e'] at hlen2; simp at hlen2
            · exact ⟨x', l1, l2, by rw [e, e']⟩
        obtain ⟨vs0, y1, y2, hvs⟩ : ∃ vs0 y1 y2, vs = vs0 ++ [y1] ++ [y2] := by
          have hlen3 : 2 ≤ vs.length := by rw [hG.1]; exact hlen2
          rcases snoc_cases vs with e | ⟨x, l2, e⟩
          · rw [e] at hlen3; cases hlen3
          · rcases snoc_cases x with e' | ⟨x', l1, e'⟩
            · rw [e, e'] at hlen3; simp at hlen3
            · exact ⟨x', l1, l2, by rw [e, e']⟩
        subst hws hvs
        have hp4 := e4 p _ hp3
        obtain ⟨hG1, g2⟩ := (hG.mono e4).unsnoc
        obtain ⟨hG0, g1⟩ := hG1.unsnoc
        refine q_pop (l := p) (xs := vs0 ++ [y1] ++ [y2]) (y := y2) hp4 (by rw [List.length_append, List.length_singleton, Nat.add_sub_cancel, List.getElem?_append_right (Nat.le_refl _), Nat.sub_self]; rfl) (ev_var rfl) fun H5 e5 => ?_
        rw [List.dropLast_concat]
        have hp5 := e5 p _ hp4
        have gA := (hG0.mono e5).upd (zs := vs0 ++ [y1]) hp5
        have gB := (g1.mono e5).upd (zs := vs0 ++ [y1]) hp5
        have gC := (g2.mono e5).upd (zs := vs0 ++ [y1]) hp5
        have hpN : (upd H5 p (.lst (vs0 ++ [y1]))) p = some (.lst (vs0 ++ [y1])) := upd_same
        have exN : Ex H (upd H5 p (.lst (vs0 ++ [y1]))) := ((x1.trans e4).trans e5).mut np
        generalize upd H5 p (.lst (vs0 ++ [y1])) = HN at gA gB gC hpN exN
        obtain ⟨zs, sz, gz⟩ := gB.seq
        have czs := gz.len
        have ha1l : a1.length ≤ 1000 := by
          have h1 := congrArg List.length hrow
          rw [List.length_reverse, List.length_take, List.length_reverse] at h1
          have h2 : ∀ (ws : List (List Bool)) (a b : List Bool), a.length ≤ (sufRow (ws ++ [a] ++ [b])).length := fun ws a b => by
            induction ws with
            | nil => show _ ≤ (b ++ false :: a).length; simp; omega
            | cons x ws ih =>
              cases ws with
              | nil => show _ ≤ ((b ++ false :: a) ++ false :: x).length; simp; omega
              | cons y ws =>
                show _ ≤ (sufRow (y :: ws ++ [a] ++ [b]) ++ false :: x).length
                rw [List.length_append]
                omega
          have := h2 ws0 a1 a2
          omega
        refine s_setLastG (xs := vs0) (y := y1) (P := fun v H' => Gr K H' v (hillOf a2 a1)) hpN ((eg_seqCat (xs := [y2]) (ys := zs) (by show 1 + _ ≤ _; omega) (eg_seqTup (ea_cons (ev_var rfl) ea_nil) (by show 1 ≤ 100000; decide)) fun H6 e6 H7 e7 Q q => ?_).imp fun v H6 e6 s6 => ?_) (fun _ => ev_var rfl) (fun _ => ev_un ev_c ru_neg) (fun v _ _ e g => g.mono e) fun v H6 e6 g6 => ?_
        · exact ev_op (ev_var rfl) (ev_un ev_c ru_neg) (rv_ixL (sq_of ((e6.trans e7) p _ hpN)) at_last) H7 (Ex.refl H7) Q fun H8 e8 => q y1 H8 e8 (sz.mono ((e6.trans e7).trans e8))
        · have := (Grs.nil.snoc (gC.mono e6)).app (gz.mono e6)
          rw [hillOf_cat]
          exact s6.gr this
        · refine ⟨_, _, vs0 ++ [v], ws0 ++ [hillOf a2 a1], rfl, (exN.trans e6).mut np, upd_same, (((gA.mono e6).snoc g6).upd (e6 p _ hpN)), ?_, by simp, ?_⟩
          · rw [sufRow_pop, hnext, ← hrow]
            simp
          · rw [List.length_append, List.length_append] at hvl
            rw [List.length_append]
            simp at hvl ⊢
            omega
    · obtain ⟨s2, s3, vs, ws, rfl, x1, hp3, hG, hrow, hne, hvl⟩ := hP
      rw [row_size, List.take_length, List.reverse_reverse] at hrow
      have hws0 : ∀ x ∈ ws, hgt x = 0 := fun x hx => by
        obtain ⟨j, hj, ej⟩ := List.getElem_of_mem hx
        have g := hG.2 j (vs[j]'(by rw [hG.1]; exact hj)) x (List.getElem?_eq_getElem (by rw [hG.1]; exact hj)) (by rw [List.getElem?_eq_getElem hj, ej])
        exact (hillB_iff.mp g.hill).1
      have hlen1 : ws.length = 1 := by
        rcases sufRow_hgt ws hws0 with h | h
        · rw [hrow, u0] at h
          omega
        · exact absurd h hne
      obtain ⟨x, rfl⟩ : ∃ x, ws = [x] := List.length_eq_one_iff.mp hlen1
      obtain ⟨y, rfl⟩ : ∃ y, vs = [y] := List.length_eq_one_iff.mp (by rw [hG.1]; rfl)
      have hx : x = u := hrow
      subst hx
      have g := hG.2 0 y x rfl rfl
      exact s_ret (v := y) (ev_op (ev_var rfl) ev_c (rv_ixL (i := ((0 : Nat) : Int)) (sq_of hp3) (atI_nat rfl))) fun H4 e4 => q y H4 (x1.trans e4) (g.mono e4)
theorem eg_lawGrove {σ : L2.St} {H : Hp} {ta : TE} {u : List Bool} {E : XK} (hl : u.length ≤ 1000) (hu : hillB none u = true) (h1 : Ev ta σ H (.str (rowS u))) : EvG (tCall (spGrove7 K) [] E (tCons ta tNil)) σ H (fun v H' => Gr K H' v u) :=
  eg_call (ea_cons h1 ea_nil) fun H1 e Q q E => ⟨u, rfl, hl, hu, q⟩
theorem ok_law_refused (F : FnP K "_law_refused" s_law_refused [] f fd) (B : Blt mg) (R : ErrOk K) (f_unfolded : Cal P w K mg base 202 "unfolded" (spUnfX K (errAd K 4)) []) (f__law_word : Cal P w K mg base 1 "_law_word" (spWord K) []) (x_HillError : Exc K mg "HillError" (He.ga K "HillError")) : FnOk P w K mg base (L2.CX P w) 203 f fd ps_law_refused (spRef7 K) := by
  refine F.ok sc_law_refused (fun vs H Q E h => ?_) (fun cdv A outer s H vs Q E hr h => ?_)
  · obtain ⟨v, k, rfl, _⟩ := h
    rfl
  · obtain ⟨v, k, rfl, hB, hk, q⟩ := h
    refine ⟨_, (pss_cons (ps_set (i := 1) sc_law_refused.nd rfl (by first | exact Or.inl rfl | exact Or.inr rfl) pe_non)
    (pss_cons (ps_try_keep (i := 2) rfl rfl sc_law_refused.nd rfl rfl rfl x_HillError.nm
      (fun W pn xe tk hp => (pss_one (ps_expr (pe_calS f_unfolded hr (by decide) (by rfl) (fun σ => passAt tk σ) (pa_cons (pv 0) pa_nil)))))
      (fun a oe pn => (pss_one (ps_set (i := 1) sc_law_refused.nd rfl (by first | exact Or.inl rfl | exact Or.inr rfl) (pv 2)))))
    (pss_one (ps_ret (pe_and (pe_callB call_isX (by rfl) B.isinstance (by first | rfl | decide +kernel) (pa_cons (pv 1) (pa_cons (pe_bltn (v := .ty "ValueError") (by rfl) B.ValueError (by first | rfl | decide +kernel) rfl) pa_nil))) (pe_one (pe_cmpR op_eq (pe_cal f__law_word hr (by decide) (by rfl) hxOf (pa_cons (pv 1) pa_nil)) pe_str (nomark _)))))))), ?_⟩
    refine q_asg (v := .non) ev_c fun H1 e1 => ?_
    refine q_tryX (i := 2) (j := 1) R 4 (by decide) ?_ (by decide) (fun a H3 e3 hkp => ?_) fun W hW => s_dropD (rs_drop (rx_call (ea_cons (ev_var rfl) ea_nil) fun H3 e3 Q => .inr ⟨v, k, rfl, (hB.mono e1).mono e3, hk, hW.mono e3⟩))
    · show 2 < 3
      decide
    · exact s_ret (ev_is (ev_andV (a := true) (b := true) (ev_isXv R (by decide) hkp (ev_var rfl) ev_c) (fun _ => ev_is (ev_op (ev_word (by decide) hkp (ev_var rfl)) ev_c (rv_eq rfl)) rfl)) rfl) fun H4 e4 => q H4 ((e1.trans e3).trans e4)
theorem ev_ref7 {σ : L2.St} {H : Hp} {ta : TE} {E : XK} (h : EvG ta σ H (fun v H' => Bad K H' 3 v)) : Ev (tCall (spRef7 K) [] E (tCons ta tNil)) σ H (.bl true) := fun H1 e Q q =>
  h H1 e _ fun v H2 e2 hB => ⟨v, 3, rfl, hB, by decide, fun H3 e3 => q H3 (e2.trans e3)⟩
end
end Hl
/-! The law: groves. -/
namespace Hl
open PySem PySem.Spec PyProof.Rows L2 Evl
abbrev s_law : Stmt := topS 25
abbrev N_law : List Str := ["_law_script", "_law_row_here", "_law_grove_here", "_law_other", "_law_wrong", "_law_at", "_law_tall"]
abbrev ps_law : List Str := ["_law_script"]
theorem sc_law : FnScope N_law ps_law (defScope s_law) := ⟨rfl, rfl, rfl, by decide +kernel, rfl, by decide +kernel, by decide +kernel⟩

def spLaw (K : PySem.W.Frag) : Sp := fun vs H Q _ => ∃ (a : Addr) (ns : List Int), vs = [.ref a] ∧ SqL K H a (ns.map V.int) ∧ ns.length ≤ 63 ∧ ∀ H', Q (.bl true) H'
theorem ups_ok : ∀ (k h : Nat) (v : List Bool), okF none h (List.replicate k true ++ v) = okF none (h + k) v
  | 0, h, v => rfl
  | k + 1, h, v => by
    rw [List.replicate_succ]
    show okF none (h + 1) (List.replicate k true ++ v) = _
    rw [ups_ok k]
    congr 1
    omega
theorem downs_ok : ∀ (k h : Nat) (v : List Bool), k ≤ h → okF none h (List.replicate k false ++ v) = okF none (h - k) v
  | 0, h, v, _ => rfl
  | k + 1, h, v, hk => by
    rw [List.replicate_succ]
    show (decide (0 < h) && okF none (h - 1) (List.replicate k false ++ v)) = _
    rw [downs_ok k _ _ (by omega), decide_eq_true (by omega), Bool.true_and]
    congr 1
    omega
theorem ok_3 : ∀ m, some 3 = some m → 1 ≤ m := fun m e => by
  cases e
  decide
theorem tower_hill : hillB none (List.replicate 200 true ++ List.replicate 200 false) = true := by
  have e0 : List.replicate 200 true ++ List.replicate 200 false = List.replicate 200 true ++ (List.replicate 200 false ++ []) := by rw [List.append_nil]
  rw [hill_ok, e0, ups_ok, downs_ok _ _ _ (by omega)]
  rfl
section
variable {K : PySem.W.Frag} {σ : L2.St} {H : Hp} {ta tb te : TE}
theorem ev_lenT {a : Addr} {xs : List V} (h : Ev ta σ H (.ref a)) (hs : SqT K H a xs) : Ev (tCB (rLenS K) (tCons ta tNil)) σ H (.int (xs.length : Int)) := fun H1 e Q q =>
  h H1 e _ fun H2 e2 => ⟨a, xs, rfl, Or.inr (ex_t (e.trans e2) hs), q H2 e2⟩
theorem Grs.mem {vs : List V} {w : List Bool} (g : Grs K H vs w) {j : Nat} {v : V} (h : vs[j]? = some v) : ∃ u : List Bool, Gr K H v u ∧ u.length ≤ w.length := by
  obtain ⟨us, rfl, h2, h3⟩ := g
  have hj := (List.getElem?_eq_some_iff.mp h).1
  have e : us[j]? = some (us[j]'(by omega)) := List.getElem?_eq_getElem (by omega)
  refine ⟨_, h3 j v _ h e, ?_⟩
  have key : ∀ (l : List (List Bool)) (u : List Bool), u ∈ l → u.length ≤ ((l.map fun u => hillOf u []).flatten).length := fun l u hu => by
    induction l with
    | nil => cases hu
    | cons x l ih =>
      rw [List.map_cons, List.flatten_cons, List.length_append]
      have e : (hillOf x []).length = x.length + 2 := by simp [hillOf]
      rcases List.mem_cons.mp hu with e2 | hu
      · rw [e2]; omega
      · have := ih hu; omega
  exact key us _ (List.mem_of_getElem? e)
theorem eg_wrong {i : Nat} (hi : i < 8) (hb : ∀ H1, Ex H H1 → Ev tb σ H1 (.int (i : Int))) :
    EvG (tOp (rIxL K) (tLst (tCons (tC (.str "")) (tCons (tC (.str "ud")) (tCons (tC (.int 3)) (tCons (tC .non) (tCons (tLst tNil) (tCons (tLst (tCons (tTup tNil) tNil)) (tCons (tTup (tCons (tC (.int 1)) tNil)) (tCons (tTup (tCons (tTup tNil) (tCons (tC (.str "u")) tNil))) tNil))))))))) tb) σ H (fun v H' => Bad K H' 2 v) := fun H1 e Q q => by
  refine ⟨sz_of (by show 0 ≤ 100000; decide), fun l1 n1 => ?_⟩
  refine ⟨sz_of (by show 0 ≤ 100000; decide), fun t2 n2 => ?_⟩
  refine ⟨sz_of (by show 1 ≤ 100000; decide), fun l2 n3 => ?_⟩
  refine ⟨sz_of (by show 1 ≤ 100000; decide), fun t3 n4 => ?_⟩
  refine ⟨sz_of (by show 0 ≤ 100000; decide), fun t5 n5 => ?_⟩
  refine ⟨sz_of (by show 2 ≤ 100000; decide), fun t4 n6 => ?_⟩
  refine ⟨sz_of (by show 8 ≤ 100000; decide), fun p n7 => ?_⟩
  have y6 := Ex.new (o := .lst [.str "", .str "ud", .int 3, .non, .ref l1, .ref l2, .ref t3, .ref t4]) n7
  have y5 := (Ex.new (o := .tup [.ref t5, .str "u"]) n6).trans y6
  have y4 := (Ex.new (o := .tup []) n5).trans y5
  have y3 := (Ex.new (o := .tup [.int 1]) n4).trans y4
  have y2 := (Ex.new (o := .lst [.ref t2]) n3).trans y3
  have y1 := (Ex.new (o := .tup []) n2).trans y2
  have y0 := (Ex.new (o := .lst []) n1).trans y1
  refine hb _ (e.trans y0) _ (Ex.refl _) _ fun H9 e9 => ?_
  have s1 : H9 l1 = some (.lst []) := e9 _ _ (y1 _ _ upd_same)
  have s2 : H9 l2 = some (.lst [.ref t2]) := e9 _ _ (y3 _ _ upd_same)
  have s3 : H9 t3 = some (.tup [.int 1]) := e9 _ _ (y4 _ _ upd_same)
  have s5 : H9 t5 = some (.tup []) := e9 _ _ (y5 _ _ upd_same)
  have s4 : H9 t4 = some (.tup [.ref t5, .str "u"]) := e9 _ _ (y6 _ _ upd_same)
  have sp : H9 p = some (.lst [.str "", .str "ud", .int 3, .non, .ref l1, .ref l2, .ref t3, .ref t4]) := e9 _ _ upd_same
  have fin : ∀ v, [V.str "", .str "ud", .int 3, .non, .ref l1, .ref l2, .ref t3, .ref t4][i]? = some v → Bad K H9 2 v → rIxL K (.ref p) (.int (i : Int)) H9 Q := fun v hv hB => ⟨p, _, _, v, rfl, rfl, sq_of sp, atI_nat hv, q v H9 (y0.trans e9) hB⟩
  have hc : i = 0 ∨ i = 1 ∨ i = 2 ∨ i = 3 ∨ i = 4 ∨ i = 5 ∨ i = 6 ∨ i = 7 := by omega
  rcases hc with h | h | h | h | h | h | h | h <;> subst h
  · exact fin _ rfl (.leaf (.inl (.str _)))
  · exact fin _ rfl (.leaf (.inl (.str _)))
  · exact fin _ rfl (.leaf (.inl (.int _)))
  · exact fin _ rfl (.leaf (.inl .non))
  · exact fin _ rfl (.leaf (.inr ⟨_, _, rfl, s1⟩))
  · exact fin _ rfl (.leaf (.inr ⟨_, _, rfl, s2⟩))
  · exact fin _ rfl (.node (k := 1) (i := 0) (st_of s3) (by show 1 ≤ 1000; decide) rfl (.leaf (.inl (.int _))) fun j v hj => absurd hj (Nat.not_lt_zero _))
  · refine fin _ rfl (.node (k := 1) (i := 1) (st_of s4) (by show 2 ≤ 1000; decide) rfl (.leaf (.inl (.str _))) fun j v hj hv => ?_)
    have hj0 : j = 0 := by omega
    subst hj0
    cases hv
    exact ⟨[], Grs.nil.gr (st_of s5), Nat.zero_le _⟩
theorem eg_wrong5 {i : Nat} (hi : i < 5) (hb : ∀ H1, Ex H H1 → Ev tb σ H1 (.int (i : Int))) :
    EvG (tOp (rIxL K) (tLst (tCons (tC (.str "")) (tCons (tC (.str "ud")) (tCons (tC (.int 3)) (tCons (tC .non) (tCons (tLst tNil) tNil)))))) tb) σ H (fun v H' => Bad K H' 3 v) := fun H1 e Q q => by
  refine ⟨sz_of (by show 0 ≤ 100000; decide), fun l1 n1 => ?_⟩
  refine ⟨sz_of (by show 5 ≤ 100000; decide), fun p n7 => ?_⟩
  have y1 := Ex.new (o := .lst [.str "", .str "ud", .int 3, .non, .ref l1]) n7
  have y0 := (Ex.new (o := .lst []) n1).trans y1
  refine hb _ (e.trans y0) _ (Ex.refl _) _ fun H9 e9 => ?_
  have s1 : H9 l1 = some (.lst []) := e9 _ _ (y1 _ _ upd_same)
  have sp : H9 p = some (.lst [.str "", .str "ud", .int 3, .non, .ref l1]) := e9 _ _ upd_same
  have fin : ∀ v, [V.str "", .str "ud", .int 3, .non, .ref l1][i]? = some v → Bad K H9 3 v → rIxL K (.ref p) (.int (i : Int)) H9 Q := fun v hv hB => ⟨p, _, _, v, rfl, rfl, sq_of sp, atI_nat hv, q v H9 (y0.trans e9) hB⟩
  have hc : i = 0 ∨ i = 1 ∨ i = 2 ∨ i = 3 ∨ i = 4 := by omega
  rcases hc with h | h | h | h | h <;> subst h
  · exact fin _ rfl (.leaf (.inl (.str _)))
  · exact fin _ rfl (.leaf (.inl (.str _)))
  · exact fin _ rfl (.leaf (.inl (.int _)))
  · exact fin _ rfl (.leaf (.inl .non))
  · exact fin _ rfl (.leaf (.inr ⟨_, _, rfl, s1⟩))
end
section
variable {P : Program} {w : World} {K : PySem.W.Frag} {mg : Str → Option Value} {base : Heap} {f : Addr} {fd : FuncData}
theorem ok_law {CW : Addr} (F : FnP K "law" s_law [] f fd) (B : Blt mg) (f__law_number : Cal P w K mg base 2 "_law_number" (spNumber K) []) (f__law_row : Cal P w K mg base 2 "_law_row" (spLRow K) []) (f_folded : Cal P w K mg base 4 "folded" (spFolded K CW) []) (f_unfolded : Cal P w K mg base 202 "unfolded" (spUnfX K (errAd K 4)) [])
    (f__law_grove : Cal P w K mg base 1 "_law_grove" (spGrove7 K) []) (f__law_refused : Cal P w K mg base 203 "_law_refused" (spRef7 K) []) :
    FnOk P w K mg base (L2.CX P w) 204 f fd ps_law (spLaw K) := by
  refine F.ok sc_law (fun vs H Q E h => ?_) (fun cdv A outer s H vs Q E hr h => ?_)
  · obtain ⟨a, ns, rfl, _⟩ := h
    rfl
  · obtain ⟨a, ns, rfl, hS, hl, q⟩ := h
    refine ⟨_, (pss_cons (ps_set (i := 1) sc_law.nd rfl (by first | exact Or.inl rfl | exact Or.inr rfl) (pe_cal f__law_row hr (by decide) (by rfl) hxOf (pa_cons (pv 0) (pa_cons pe_non pa_nil))))
    (pss_cons (ps_set (i := 2) sc_law.nd rfl (by first | exact Or.inl rfl | exact Or.inr rfl) (pe_cal f_folded hr (by decide) (by rfl) hxOf (pa_cons (pv 1) pa_nil)))
    (pss_cons (ps_if (PW.pt (pw_or (pt_cmpR (op_neD hr.units) (pv 2) (pe_cal f__law_grove hr (by decide) (by rfl) hxOf (pa_cons (pv 1) pa_nil)) (nomark _)) (pw_or (pt_not (pt_val (pe_callB call_isi (by rfl) B.isinstance (by first | rfl | decide +kernel) (pa_cons (pv 2) (pa_cons (pe_bltn (v := .ty "tuple") (by rfl) B.tuple (by first | rfl | decide +kernel) rfl) pa_nil))))) (pw_or1 (pt_cmpR op_ne (pe_cal f_unfolded hr (by decide) (by rfl) hxOf (pa_cons (pv 2) pa_nil)) (pv 1) (nomark _))))))
      (pss_one (ps_ret pe_bl))
      pss_nil)
    (pss_cons (ps_set (i := 3) sc_law.nd rfl (by first | exact Or.inl rfl | exact Or.inr rfl) (pe_cal f__law_row hr (by decide) (by rfl) hxOf (pa_cons (pe_revL (pv 0)) (pa_cons pe_int pa_nil))))
    (pss_cons (ps_if (pt_cmpR op_ne (pe_cal f_unfolded hr (by decide) (by rfl) hxOf (pa_cons (pe_op op_catA (pv 2) (pe_cal f_folded hr (by decide) (by rfl) hxOf (pa_cons (pv 3) pa_nil))) pa_nil)) (pe_op op_add_str (pv 1) (pv 3)) (nomark _))
      (pss_one (ps_ret pe_bl))
      pss_nil)
    (pss_cons (ps_if (pt_cmpR op_ne (pe_cal f_unfolded hr (by decide) (by rfl) hxOf (pa_cons (pe_tup (pa_cons (pv 2) (pa_cons (pe_cal f_folded hr (by decide) (by rfl) hxOf (pa_cons (pv 3) pa_nil)) pa_nil))) pa_nil)) (pe_op op_add_str (pe_op op_add_str (pe_op op_add_str (pe_op op_add_str pe_str (pv 1)) pe_str) (pv 3)) pe_str) (nomark _))
      (pss_one (ps_ret pe_bl))
      pss_nil)
    (pss_cons (ps_if (PW.pt (pw_or (pt_cmpR (op_neD hr.units) (pe_cal f_folded hr (by decide) (by rfl) hxOf (pa_cons (pe_op op_add_str (pv 1) (pv 3)) pa_nil)) (pe_op op_catA (pv 2) (pe_cal f__law_grove hr (by decide) (by rfl) hxOf (pa_cons (pv 3) pa_nil))) (nomark _)) (pw_or1 (pt_cmpR (op_neD hr.units) (pe_cal f_folded hr (by decide) (by rfl) hxOf (pa_cons (pe_op op_add_str (pe_op op_add_str pe_str (pv 1)) pe_str) pa_nil)) (pe_tup (pa_cons (pv 2) pa_nil)) (nomark _)))))
      (pss_one (ps_ret pe_bl))
      pss_nil)
    (pss_cons (ps_set (i := 4) sc_law.nd rfl (by first | exact Or.inl rfl | exact Or.inr rfl) (pe_ix ix_list (pe_lst (pa_cons pe_str (pa_cons pe_str (pa_cons pe_int (pa_cons pe_non (pa_cons (pe_lst pa_nil) (pa_cons (pe_lst (pa_cons (pe_tup pa_nil) pa_nil)) (pa_cons (pe_tup (pa_cons pe_int pa_nil)) (pa_cons (pe_tup (pa_cons (pe_tup pa_nil) (pa_cons pe_str pa_nil))) pa_nil))))))))) (pe_op op_mod (pe_cal f__law_number hr (by decide) (by rfl) hxOf (pa_cons (pv 0) (pa_cons pe_int pa_nil))) pe_int) (fun _ _ => rfl)))
    (pss_cons (ps_set (i := 5) sc_law.nd rfl (by first | exact Or.inl rfl | exact Or.inr rfl) (pe_op op_mod (pe_cal f__law_number hr (by decide) (by rfl) hxOf (pa_cons (pv 0) (pa_cons pe_int pa_nil))) (pe_op op_add (pe_callB call_len_seq (by rfl) B.len (by first | rfl | decide +kernel) (pa_cons (pv 2) pa_nil)) pe_int)))
    (pss_cons (ps_if (pt_not (pt_val (pe_cal f__law_refused hr (by decide) (by rfl) hxOf (pa_cons (pe_op op_catA (pe_op op_catA (pe_slice sl_tupA (pv 2) po_none (po_some (pv 5))) (pe_tup (pa_cons (pv 4) pa_nil))) (pe_slice sl_tupA (pv 2) (po_some (pv 5)) po_none)) pa_nil))))
      (pss_one (ps_ret pe_bl))
      pss_nil)
    (pss_cons (ps_if (pt_not (pt_val (pe_cal f__law_refused hr (by decide) (by rfl) hxOf (pa_cons (pe_ix ix_list (pe_lst (pa_cons pe_str (pa_cons pe_str (pa_cons pe_int (pa_cons pe_non (pa_cons (pe_lst pa_nil) pa_nil)))))) (pe_op op_mod (pe_callB call_len_seq (by rfl) B.len (by first | rfl | decide +kernel) (pa_cons (pv 0) pa_nil)) pe_int) (fun _ _ => rfl)) pa_nil))))
      (pss_one (ps_ret pe_bl))
      pss_nil)
    (pss_cons (ps_set (i := 6) sc_law.nd rfl (by first | exact Or.inl rfl | exact Or.inr rfl) (pe_op op_add_str (pe_op op_repS pe_str pe_int) (pe_op op_repS pe_str pe_int)))
    (pss_cons (ps_if (pt_cmpR op_ne (pe_cal f_unfolded hr (by decide) (by rfl) hxOf (pa_cons (pe_cal f_folded hr (by decide) (by rfl) hxOf (pa_cons (pv 6) pa_nil)) pa_nil)) (pv 6) (nomark _))
      (pss_one (ps_ret pe_bl))
      pss_nil)
    (pss_one (ps_ret (pe_and (pe_cmpR op_eq (pe_cal f_unfolded hr (by decide) (by rfl) hxOf (pa_cons (pe_tup pa_nil) pa_nil)) pe_str (nomark _)) (pe_one (pe_cmpR (op_eqD hr.units) (pe_cal f_folded hr (by decide) (by rfl) hxOf (pa_cons pe_str pa_nil)) (pe_tup pa_nil) (nomark _))))))))))))))))))), ?_⟩
    refine q_asgG (eg_lawRow (c := none) hS hl (fun _ z => nomatch z) (ev_var rfl) ev_c) fun v H1 e1 hv => ?_
    obtain ⟨w0, rfl, hw0, hwl0⟩ := hv
    refine q_asgG (eg_folded (w := w0) (by omega) hw0 (ev_var rfl)) fun gv H2 e2 g0 => ?_
    have c0 : hillB (some 60) w0 = true := ceil_len hw0 (by omega)
    obtain ⟨ga, gvs, hga, hgt, hgr⟩ := g0.grs
    subst hga
    refine q_when (b := false) (et_is (et_or (a := false) (b := false) (et_test (ev_neGr c0 (by decide) (eg_grV g0 rfl) fun _ _ => eg_lawGrove (by omega) hw0 (ev_var rfl))) (fun _ => et_is (et_or (a := false) (b := false) (et_is (et_not (et_B (ev_isTup (ev_var rfl) ev_c hgt))) rfl) (fun _ => et_test (ev_op (ev_unfV (by omega) g0 (ev_var rfl)) (ev_var rfl) (rv_neN rfl rfl)))) rfl)) rfl) (fun z => nomatch z) fun _ H3 e3 => ?_
    have hS3 := ex_l ((e1.trans e2).trans e3) hS
    have g3 := g0.mono e3
    obtain ⟨k1, k2⟩ := lawRow_ok (ns := ns.reverse) (c := some 3) (by rw [List.length_reverse]; omega) ok_3
    refine q_asg (v := .str (rowS (lawRow ns.reverse (some 3)))) (ev_lawRowN (ns := ns.reverse) (c := some 3) (by rw [List.length_reverse]; exact hl) ok_3 (el_is (el_revL (ev_var rfl) hS3) (by rw [List.map_reverse])) fun _ _ => ev_c) fun H4 e4 => ?_
    have hw1 := hill_none k1
    generalize lawRow ns.reverse (some 3) = w1 at hw1 k2
    have c1 : hillB (some 60) w1 = true := ceil_len hw1 (by omega)
    have g4 := g3.mono e4
    refine q_when (b := false) (et_test (ev_op (ev_unfG (w := w0 ++ w1) (by rw [List.length_append]; omega) (eg_grCat (by omega) (eg_grV g4 rfl) fun _ _ => eg_folded (by omega) hw1 (ev_var rfl))) (ev_addR (ev_var rfl) (ev_var rfl) (by omega)) (rv_neN rfl rfl))) (fun z => nomatch z) fun _ H5 e5 => ?_
    have g5 := g4.mono e5
    have l0 : (hillOf w0 []).length = w0.length + 2 := by simp [hillOf]
    have l1 : (hillOf w1 []).length = w1.length + 2 := by simp [hillOf]
    refine q_when (b := false) (et_test (ev_op (ev_unfG (w := hillOf w0 [] ++ hillOf w1 []) (by rw [List.length_append]; omega) (eg_grTwo (eg_grV g5 rfl) fun _ _ => eg_folded (by omega) hw1 (ev_var rfl))) (ev_addR (a := (([true] ++ w0) ++ [false, true]) ++ w1) (b := [false]) (ev_addR (a := ([true] ++ w0) ++ [false, true]) (b := w1) (ev_addR (a := [true] ++ w0) (b := [false, true]) (ev_addR (a := [true]) (b := w0) (ev_is ev_c (by rw [lit_u])) (ev_var rfl) (by show 1 + _ ≤ _; omega)) (ev_is ev_c (by decide +kernel)) (by show (w0.length + 1) + 2 ≤ _; omega)) (ev_var rfl) (by simp; omega)) (ev_is ev_c (by rw [lit_d])) (by simp; omega)) (rv_neN rfl (by simp [hillOf])))) (fun z => nomatch z) fun _ H6 e6 => ?_
    have g6 := g5.mono e6
    refine q_when (b := false) (et_is (et_or (a := false) (b := false) (et_test (ev_neGr (w := w0 ++ w1) (m := 60) (hill_app c0 c1) (by decide) (eg_folded (by rw [List.length_append]; omega) (hill_app hw0 hw1) (ev_addR (ev_var rfl) (ev_var rfl) (by omega))) fun H7 e7 => eg_grCat (by omega) (eg_grV (g6.mono e7) rfl) fun _ _ => eg_lawGrove (by omega) hw1 (ev_var rfl))) (fun _ => et_test (ev_neGr (w := hillOf w0 []) (m := 61) (ceil_len (hillOf_hill hw0 (hill_nil none)) (by omega)) (by decide) (eg_folded (by omega) (hillOf_hill hw0 (hill_nil none)) (ev_is (ev_addR (a := [true] ++ w0) (b := [false]) (ev_addR (a := [true]) (b := w0) (ev_is ev_c (by rw [lit_u])) (ev_var rfl) (by show 1 + _ ≤ _; omega)) (ev_is ev_c (by rw [lit_d])) (by show (w0.length + 1) + 1 ≤ _; omega)) (by simp [hillOf]))) fun H7 e7 => eg_grOne (eg_grV (g6.mono e7) rfl)))) rfl) (fun z => nomatch z) fun _ H7 e7 => ?_
    have e07 := ((((e3.trans e4).trans e5).trans e6).trans e7)
    have hS7 := ex_l ((e1.trans e2).trans e07) hS
    have hmo := mixed_lo (cellOf ns 1) ((1 : Nat) : Int)
    obtain ⟨i, hi⟩ := Int.eq_ofNat_of_zero_le (show 0 ≤ mixed (cellOf ns 1) ((1 : Nat) : Int) % 8 by omega)
    refine q_asgG (eg_wrong (i := i) (by omega) fun H8 e8 => ev_is (ev_op (ev_number (k := 1) (ex_l e8 hS7) (ev_var rfl) ev_c) ev_c (rv_I (C := fun _ j => 0 < j) (by decide))) (by rw [hi])) fun wr H8 e8 hB => ?_
    have e08 := e07.trans e8
    have hgt8 := ex_t e08 hgt
    have hgr8 := hgr.mono e08
    have hlen := hgr8.len
    have hmo2 := mixed_lo (cellOf ns 2) ((2 : Nat) : Int)
    obtain ⟨at', hat, hat2⟩ : ∃ k : Nat, mixed (cellOf ns 2) ((2 : Nat) : Int) % ((gvs.length : Int) + 1) = (k : Int) ∧ k ≤ gvs.length := by
      have h1 := Int.emod_nonneg (mixed (cellOf ns 2) ((2 : Nat) : Int)) (show (gvs.length : Int) + 1 ≠ 0 by omega)
      have h2 := Int.emod_lt_of_pos (mixed (cellOf ns 2) ((2 : Nat) : Int)) (show (0 : Int) < (gvs.length : Int) + 1 by omega)
      exact ⟨(mixed (cellOf ns 2) ((2 : Nat) : Int) % ((gvs.length : Int) + 1)).toNat, by omega, by omega⟩
    refine q_asg (v := .int (at' : Int)) (ev_is (ev_op (ev_number (k := 2) (ex_l ((e1.trans e2).trans e08) hS) (ev_var rfl) ev_c) (ev_op (ev_lenT (ev_var rfl) hgt8) ev_c rv_I0) (rv_I (C := fun _ j => 0 < j) (by omega))) (by rw [hat])) fun H9 e9 => ?_
    have hgt9 := ex_t e9 hgt8
    have hgr9 := hgr8.mono e9
    have hB9 := hB.mono e9
    refine q_when (b := false) (et_is (et_not (et_B (ev_ref7 ((eg_seqCat (xs := gvs.take at' ++ [wr]) (ys := gvs.drop at') (by simp only [List.length_append, List.length_take, List.length_drop, List.length_singleton]; omega) (eg_seqCat (xs := gvs.take at') (ys := [wr]) (by simp only [List.length_take, List.length_singleton]; omega) ((eg_seqSl (ev_var rfl) eo_none (eo_some (i := (at' : Int)) (ev_var rfl)) hgt9).imp fun v H1 _ s => by rw [cut_to] at s; exact s) fun _ _ => eg_seqTup (ea_cons (ev_var rfl) ea_nil) (by show 1 ≤ 100000; decide)) fun H10 e10 => (eg_seqSl (ev_var rfl) (eo_some (i := (at' : Int)) (ev_var rfl)) eo_none (ex_t e10 hgt9)).imp fun v H1 _ s => by rw [cut_from] at s; exact s).imp fun v H10 e10 s => ?_)))) rfl) (fun z => nomatch z) fun _ H10 e10 => ?_
    · obtain ⟨b, rfl, hb⟩ := s
      have htl : (gvs.take at').length = at' := by rw [List.length_take]; omega
      refine .node (k := 2) (i := at') hb (by simp only [List.length_append, List.length_take, List.length_drop, List.length_singleton]; omega) ?_ (hB9.mono e10) fun j v hj hv => ?_
      · rw [List.getElem?_append_left (by rw [List.length_append, htl]; simp), List.getElem?_append_right (by omega), htl, Nat.sub_self]
        rfl
      · rw [List.getElem?_append_left (by rw [List.length_append, htl]; simp; omega), List.getElem?_append_left (by omega), List.getElem?_take, if_pos hj] at hv
        obtain ⟨u, z1, z2⟩ := (hgr9.mono e10).mem hv
        exact ⟨u, z1, by omega⟩
    obtain ⟨j, hj⟩ := Int.eq_ofNat_of_zero_le (show 0 ≤ ((ns.map V.int).length : Int) % 5 by omega)
    refine q_when (b := false) (et_is (et_not (et_B (ev_ref7 (eg_wrong5 (i := j) (by omega) fun H11 e11 => ev_is (ev_op (ev_len (ev_var rfl) (ex_l ((((e1.trans e2).trans e08).trans e9).trans (e10.trans e11)) hS)) ev_c (rv_I (C := fun _ j => 0 < j) (by decide))) (by rw [hj]))))) rfl) (fun z => nomatch z) fun _ H11 e11 => ?_
    refine q_asg (v := .str (rowS (List.replicate 200 true ++ List.replicate 200 false))) (ev_addR (ev_is (ev_repS ev_c ev_c (by decide) (by decide)) (by rw [rep_u]; rfl)) (ev_is (ev_repS ev_c ev_c (by decide) (by decide)) (by rw [rep_d]; rfl)) (by rw [List.length_replicate, List.length_replicate]; decide)) fun H12 e12 => ?_
    have tl : (List.replicate 200 true ++ List.replicate 200 false).length = 400 := by rw [List.length_append, List.length_replicate, List.length_replicate]
    have th := tower_hill
    generalize List.replicate 200 true ++ List.replicate 200 false = tw at tl th
    refine q_when (b := false) (et_test (ev_op (ev_unfG (w := tw) (by omega) (eg_folded (by omega) th (ev_var rfl))) (ev_var rfl) (rv_neN rfl rfl))) (fun z => nomatch z) fun _ H13 e13 => ?_
    exact s_ret (ev_is (ev_andV (a := true) (b := true) (ev_is (ev_op (ev_unfG (w := []) (Nat.zero_le _) eg_grNil) (ev_is ev_c (by rw [lit_e])) (rv_eq rfl)) (by rw [decide_eq_true rfl])) (fun _ => ev_eqGr (w := []) (m := 60) (ceil_len (hill_nil none) (Nat.zero_le _)) (by decide) (eg_folded (Nat.zero_le _) (hill_nil none) (ev_is ev_c (by rw [lit_e]))) fun _ _ => eg_grNil)) rfl) fun H14 _ => q H14
end
end Hl
/-! ### the end -/
namespace Hl
open PySem PySem.Spec PyProof.Rows L2 Evl
def d_heights : He.DefD := ⟨("heights", none), "heights", "heights", defArgs s_heights, defBody s_heights, defScope s_heights, [], []⟩
def d_is_hill : He.DefD := ⟨("is_hill", none), "is_hill", "is_hill", defArgs s_is_hill, defBody s_is_hill, defScope s_is_hill, [.non], []⟩
def d_need_hill : He.DefD := ⟨("need_hill", none), "need_hill", "need_hill", defArgs s_need_hill, defBody s_need_hill, defScope s_need_hill, [.non], []⟩
def d_folded : He.DefD := ⟨("folded", none), "folded", "folded", defArgs s_folded, defBody s_folded, defScope s_folded, [], []⟩
def d_written : He.DefD := ⟨("written", none), "written", "written", defArgs s_written, defBody s_written, defScope s_written, [], []⟩
def d_unfolded : He.DefD := ⟨("unfolded", none), "unfolded", "unfolded", defArgs s_unfolded, defBody s_unfolded, defScope s_unfolded, [], []⟩
def d_law_mixed : He.DefD := ⟨("_law_mixed", none), "_law_mixed", "_law_mixed", defArgs s_law_mixed, defBody s_law_mixed, defScope s_law_mixed, [], []⟩
def d_law_number : He.DefD := ⟨("_law_number", none), "_law_number", "_law_number", defArgs s_law_number, defBody s_law_number, defScope s_law_number, [], []⟩
def d_law_row : He.DefD := ⟨("_law_row", none), "_law_row", "_law_row", defArgs s_law_row, defBody s_law_row, defScope s_law_row, [], []⟩
def d_law_word : He.DefD := ⟨("_law_word", none), "_law_word", "_law_word", defArgs s_law_word, defBody s_law_word, defScope s_law_word, [], []⟩
def d_law_grove : He.DefD := ⟨("_law_grove", none), "_law_grove", "_law_grove", defArgs s_law_grove, defBody s_law_grove, defScope s_law_grove, [], []⟩
def d_law_refused : He.DefD := ⟨("_law_refused", none), "_law_refused", "_law_refused", defArgs s_law_refused, defBody s_law_refused, defScope s_law_refused, [], []⟩
def d_law : He.DefD := ⟨("law", none), "law", "law", defArgs s_law, defBody s_law, defScope s_law, [], []⟩
def fnL : List He.DefD := [d_heights, d_is_hill, d_need_hill, d_folded, d_written, d_unfolded, d_law_mixed, d_law_number, d_law_row, d_law_word, d_law_grove, d_law_refused, d_law]
def faL : List He.Fa := [.glo "heights", .glo "is_hill", .glo "need_hill", .glo "folded", .glo "written", .glo "unfolded", .glo "_law_mixed", .glo "_law_number", .glo "_law_row", .glo "_law_word", .glo "_law_grove", .glo "_law_refused", .glo "law", .glo "HillError", .glo "NoRow", .glo "NoCount", .glo "NoRank", .glo "NoPlace", .glo "NoTree", .glo "NoPairs", .glo "NoTurn", .glo "NoText", .exc "HillError", .exc "NoRow", .exc "NoCount", .exc "NoRank", .exc "NoPlace", .exc "NoTree", .exc "NoPairs", .exc "NoTurn", .free "len", .free "min", .free "max", .free "sum", .free "sorted", .free "isinstance", .free "int", .free "bool", .free "str", .free "list", .free "tuple", .free "set", .free "range", .free "enumerate", .free "zip", .free "reversed", .free "ValueError"]
def exB (K : PySem.W.Frag) : Bool := errB K
abbrev RL : PySem.W.OpenRow := PySem.W.OpenLaw.row PySem.Challenge.rw_hillrows_k07_groves
abbrev hkL : PySem.W.Hook := He.hookX 4 faL fnL [] [] exB
def obL (s : PySem.W.SharedT) : He.AlX := He.obsX 4 faL fnL [] [] exB (HandSHeadRun.getT s)
theorem obL_eq (s : PySem.W.SharedT) : obL s = hkL.obs s.abs := He.obsX_eq (HandSHeadRun.getT_eq s)
theorem runL (w : World) : HandSHeadRun.RunEq RL (PySem.W.view RL.prog [25]) hkL obL 6000 [("HillError" : PySem.Str), ("NoRow" : PySem.Str), ("NoCount" : PySem.Str), ("NoRank" : PySem.Str), ("NoPlace" : PySem.Str), ("NoTree" : PySem.Str), ("NoPairs" : PySem.Str), ("NoTurn" : PySem.Str), ("NoText" : PySem.Str), ("heights" : PySem.Str), ("is_hill" : PySem.Str), ("need_hill" : PySem.Str), ("folded" : PySem.Str), ("written" : PySem.Str), ("unfolded" : PySem.Str), ("_law_mixed" : PySem.Str), ("_law_number" : PySem.Str), ("_law_row" : PySem.Str), ("_law_word" : PySem.Str), ("_law_grove" : PySem.Str), ("_law_refused" : PySem.Str)] w := by
  intro os
  kernel_rfl
theorem facts {P : Program} {w : World} {K : PySem.W.Frag} {h : Heap} {mg : Str → Option Value} {f : Addr} (X : K.In h) (G : h.Ns mainGlobals mg) (hfa : mg ("law" : Str) = some (.ref f)) (c : He.SaysD faL fnL K) (ex : exB K = true) :
    ∃ fd : FuncData, (∀ (s : Shared) (v : Value), BindsTo s fd ⟨[v], []⟩ [("_law_script", v)]) ∧ ∀ base : Heap, K.In base → base.Ns mainGlobals mg → FnOk P w K mg base CX0 204 f fd ["_law_script"] (spLaw K) := by
  obtain ⟨fd_heights, F_heights⟩ := c.def_ 0 (d := d_heights) rfl
  obtain ⟨fd_is_hill, F_is_hill⟩ := c.def_ 1 (d := d_is_hill) rfl
  obtain ⟨fd_need_hill, F_need_hill⟩ := c.def_ 2 (d := d_need_hill) rfl
  obtain ⟨fd_folded, F_folded⟩ := c.def_ 3 (d := d_folded) rfl
  obtain ⟨fd_written, F_written⟩ := c.def_ 4 (d := d_written) rfl
  obtain ⟨fd_unfolded, F_unfolded⟩ := c.def_ 5 (d := d_unfolded) rfl
  obtain ⟨fd_law_mixed, F_law_mixed⟩ := c.def_ 6 (d := d_law_mixed) rfl
  obtain ⟨fd_law_number, F_law_number⟩ := c.def_ 7 (d := d_law_number) rfl
  obtain ⟨fd_law_row, F_law_row⟩ := c.def_ 8 (d := d_law_row) rfl
  obtain ⟨fd_law_word, F_law_word⟩ := c.def_ 9 (d := d_law_word) rfl
  obtain ⟨fd_law_grove, F_law_grove⟩ := c.def_ 10 (d := d_law_grove) rfl
  obtain ⟨fd_law_refused, F_law_refused⟩ := c.def_ 11 (d := d_law_refused) rfl
  obtain ⟨fd_law, F_law⟩ := c.def_ 12 (d := d_law) rfl
  have g_heights := He.glo_ok X G (c.fact 0 (f := .glo "heights") rfl)
  have g_is_hill := He.glo_ok X G (c.fact 1 (f := .glo "is_hill") rfl)
  have g_need_hill := He.glo_ok X G (c.fact 2 (f := .glo "need_hill") rfl)
  have g_folded := He.glo_ok X G (c.fact 3 (f := .glo "folded") rfl)
  have g_written := He.glo_ok X G (c.fact 4 (f := .glo "written") rfl)
  have g_unfolded := He.glo_ok X G (c.fact 5 (f := .glo "unfolded") rfl)
  have g_law_mixed := He.glo_ok X G (c.fact 6 (f := .glo "_law_mixed") rfl)
  have g_law_number := He.glo_ok X G (c.fact 7 (f := .glo "_law_number") rfl)
  have g_law_row := He.glo_ok X G (c.fact 8 (f := .glo "_law_row") rfl)
  have g_law_word := He.glo_ok X G (c.fact 9 (f := .glo "_law_word") rfl)
  have g_law_grove := He.glo_ok X G (c.fact 10 (f := .glo "_law_grove") rfl)
  have g_law_refused := He.glo_ok X G (c.fact 11 (f := .glo "_law_refused") rfl)
  have g_law := He.glo_ok X G (c.fact 12 (f := .glo "law") rfl)
  have x_HillError := exc_of X G (c.fact 22 (f := .exc "HillError") rfl) (c.fact 13 (f := .glo "HillError") rfl)
  have x_NoRow := exc_of X G (c.fact 23 (f := .exc "NoRow") rfl) (c.fact 14 (f := .glo "NoRow") rfl)
  have x_NoCount := exc_of X G (c.fact 24 (f := .exc "NoCount") rfl) (c.fact 15 (f := .glo "NoCount") rfl)
  have x_NoRank := exc_of X G (c.fact 25 (f := .exc "NoRank") rfl) (c.fact 16 (f := .glo "NoRank") rfl)
  have x_NoPlace := exc_of X G (c.fact 26 (f := .exc "NoPlace") rfl) (c.fact 17 (f := .glo "NoPlace") rfl)
  have x_NoTree := exc_of X G (c.fact 27 (f := .exc "NoTree") rfl) (c.fact 18 (f := .glo "NoTree") rfl)
  have x_NoPairs := exc_of X G (c.fact 28 (f := .exc "NoPairs") rfl) (c.fact 19 (f := .glo "NoPairs") rfl)
  have x_NoTurn := exc_of X G (c.fact 29 (f := .exc "NoTurn") rfl) (c.fact 20 (f := .glo "NoTurn") rfl)
  have x_NoText : ExcG mg "NoText" (He.ga K "NoText") := ⟨He.glo_ok X G (c.fact 21 (f := .glo "NoText") rfl)⟩
  have B : Blt mg := ⟨He.free_ok X G (c.fact 30 (f := .free "len") rfl), He.free_ok X G (c.fact 31 (f := .free "min") rfl), He.free_ok X G (c.fact 32 (f := .free "max") rfl), He.free_ok X G (c.fact 33 (f := .free "sum") rfl), He.free_ok X G (c.fact 34 (f := .free "sorted") rfl), He.free_ok X G (c.fact 35 (f := .free "isinstance") rfl), He.free_ok X G (c.fact 36 (f := .free "int") rfl), He.free_ok X G (c.fact 37 (f := .free "bool") rfl), He.free_ok X G (c.fact 38 (f := .free "str") rfl), He.free_ok X G (c.fact 39 (f := .free "list") rfl), He.free_ok X G (c.fact 40 (f := .free "tuple") rfl), He.free_ok X G (c.fact 41 (f := .free "set") rfl), He.free_ok X G (c.fact 42 (f := .free "range") rfl), He.free_ok X G (c.fact 43 (f := .free "enumerate") rfl), He.free_ok X G (c.fact 44 (f := .free "zip") rfl), He.free_ok X G (c.fact 45 (f := .free "reversed") rfl), He.free_ok X G (c.fact 46 (f := .free "ValueError") rfl)⟩
  have R := errOk_of ex
  have b_heights : Binds K fd_heights ps_heights [] := FunD.bindsN F_heights fun _ _ _ _ _ _ us hl => match us, hl with | [_], _ => rfl
  have b_is_hill : Binds K fd_is_hill ps_is_hill [] := binds_nil (FunD.binds1 F_is_hill 2 1 (by intro z; cases z) rfl fun _ _ _ _ _ _ _ us its hu hi => match us, its, hu, hi with | [_, _], [_], _, _ => ⟨_, rfl, rfl⟩)
  have bd_is_hill : ∃ ds, Vals [.non] ds ∧ Binds K fd_is_hill ps_is_hill ds := (FunD.binds1 F_is_hill 1 0 (by intro z; cases z) rfl fun _ _ _ _ _ _ _ us its hu hi => match us, its, hu, hi with | [_], [_], _, _ => ⟨_, rfl, rfl⟩)
  have b_need_hill : Binds K fd_need_hill ps_need_hill [] := binds_nil (FunD.binds1 F_need_hill 2 1 (by intro z; cases z) rfl fun _ _ _ _ _ _ _ us its hu hi => match us, its, hu, hi with | [_, _], [_], _, _ => ⟨_, rfl, rfl⟩)
  have bd_need_hill : ∃ ds, Vals [.non] ds ∧ Binds K fd_need_hill ps_need_hill ds := (FunD.binds1 F_need_hill 1 0 (by intro z; cases z) rfl fun _ _ _ _ _ _ _ us its hu hi => match us, its, hu, hi with | [_], [_], _, _ => ⟨_, rfl, rfl⟩)
  have b_folded : Binds K fd_folded ps_folded [] := FunD.bindsN F_folded fun _ _ _ _ _ _ us hl => match us, hl with | [_], _ => rfl
  have b_written : Binds K fd_written ps_written [] := FunD.bindsN F_written fun _ _ _ _ _ _ us hl => match us, hl with | [_, _], _ => rfl
  have b_unfolded : Binds K fd_unfolded ps_unfolded [] := FunD.bindsN F_unfolded fun _ _ _ _ _ _ us hl => match us, hl with | [_], _ => rfl
  have b_law_mixed : Binds K fd_law_mixed ps_law_mixed [] := FunD.bindsN F_law_mixed fun _ _ _ _ _ _ us hl => match us, hl with | [_, _], _ => rfl
  have b_law_number : Binds K fd_law_number ps_law_number [] := FunD.bindsN F_law_number fun _ _ _ _ _ _ us hl => match us, hl with | [_, _], _ => rfl
  have b_law_row : Binds K fd_law_row ps_law_row [] := FunD.bindsN F_law_row fun _ _ _ _ _ _ us hl => match us, hl with | [_, _], _ => rfl
  have b_law_word : Binds K fd_law_word ps_law_word [] := FunD.bindsN F_law_word fun _ _ _ _ _ _ us hl => match us, hl with | [_], _ => rfl
  have b_law_grove : Binds K fd_law_grove ps_law_grove [] := FunD.bindsN F_law_grove fun _ _ _ _ _ _ us hl => match us, hl with | [_], _ => rfl
  have b_law_refused : Binds K fd_law_refused ps_law_refused [] := FunD.bindsN F_law_refused fun _ _ _ _ _ _ us hl => match us, hl with | [_], _ => rfl
  have e := hfa.symm.trans g_law
  cases e
  have bl := FunD.bindsA (ps := ["_law_script"]) F_law fun _ _ _ _ _ _ us hl => match us, hl with | [_], _ => rfl
  refine ⟨fd_law, fun s v => bl s [v] rfl, fun base _ _ => ?_⟩
  have f_heights := cal_of (P := P) (w := w) (base := base) (x := "heights") (ok_heights F_heights B x_NoRow) g_heights F_heights.kp b_heights
  have f_is_hill := cal_of (P := P) (w := w) (base := base) (x := "is_hill") (ok_is_hill F_is_hill B f_heights) g_is_hill F_is_hill.kp b_is_hill
  have f_is_hill_d := cal_d (P := P) (w := w) (base := base) (x := "is_hill") (ok_is_hill F_is_hill B f_heights) g_is_hill F_is_hill.kp bd_is_hill
  have f_need_hill := cal_of (P := P) (w := w) (base := base) (x := "need_hill") (ok_need_hill F_need_hill f_is_hill x_NoRow) g_need_hill F_need_hill.kp b_need_hill
  have f_need_hill_d := cal_d (P := P) (w := w) (base := base) (x := "need_hill") (ok_need_hill F_need_hill f_is_hill x_NoRow) g_need_hill F_need_hill.kp bd_need_hill
  have f_folded := cal_of (P := P) (w := w) (base := base) (x := "folded") (ok_folded F_folded B f_need_hill_d) g_folded F_folded.kp b_folded
  have f_written := cal_of (P := P) (w := w) (base := base) (x := "written") (ok_written F_written B g_written b_written x_NoTree) g_written F_written.kp b_written
  have f_unfolded := cal_of (P := P) (w := w) (base := base) (x := "unfolded") (ok_unfolded F_unfolded f_written) g_unfolded F_unfolded.kp b_unfolded
  have f__law_mixed := cal_of (P := P) (w := w) (base := base) (x := "_law_mixed") (ok_law_mixed F_law_mixed) g_law_mixed F_law_mixed.kp b_law_mixed
  have f__law_number := cal_of (P := P) (w := w) (base := base) (x := "_law_number") (ok_law_number F_law_number B f__law_mixed) g_law_number F_law_number.kp b_law_number
  have f__law_row := cal_of (P := P) (w := w) (base := base) (x := "_law_row") (ok_law_row F_law_row B f__law_mixed) g_law_row F_law_row.kp b_law_row
  have f__law_word := cal_of (P := P) (w := w) (base := base) (x := "_law_word") (ok_law_word F_law_word B R x_NoRow x_NoCount x_NoRank x_NoPlace x_NoTree x_NoPairs x_NoTurn x_NoText) g_law_word F_law_word.kp b_law_word
  have f__law_grove := cal_of (P := P) (w := w) (base := base) (x := "_law_grove") (ok_law_grove F_law_grove B) g_law_grove F_law_grove.kp b_law_grove
  have f__law_refused := cal_of (P := P) (w := w) (base := base) (x := "_law_refused") (ok_law_refused F_law_refused B R f_unfolded f__law_word x_HillError) g_law_refused F_law_refused.kp b_law_refused
  exact noX (ok_law F_law B f__law_number f__law_row f_folded f_unfolded f__law_grove f__law_refused) (fun _ _ _ _ z => z)
end Hl
open PySem PySem.W PySem.Calls PyProof.Rows
set_option maxHeartbeats 0 in
theorem PySem.Challenge.cw_hillrows_k07_groves_holds : PySem.Challenge.rw_hillrows_k07_groves.Holds := by
  w_on; o_law
  refine HandSHeadRun.head_any (r := OpenLaw.row PySem.Challenge.rw_hillrows_k07_groves) (q := view (OpenLaw.row PySem.Challenge.rw_hillrows_k07_groves).prog [25]) (H := Hl.hkL) (ob := Hl.obL) (M := 6000) (loose := [("HillError" : PySem.Str), ("NoRow" : PySem.Str), ("NoCount" : PySem.Str), ("NoRank" : PySem.Str), ("NoPlace" : PySem.Str), ("NoTree" : PySem.Str), ("NoPairs" : PySem.Str), ("NoTurn" : PySem.Str), ("NoText" : PySem.Str), ("heights" : PySem.Str), ("is_hill" : PySem.Str), ("need_hill" : PySem.Str), ("folded" : PySem.Str), ("written" : PySem.Str), ("unfolded" : PySem.Str), ("_law_mixed" : PySem.Str), ("_law_number" : PySem.Str), ("_law_row" : PySem.Str), ("_law_word" : PySem.Str), ("_law_grove" : PySem.Str), ("_law_refused" : PySem.Str)]) (d := HandSHeadRun.topDef (OpenLaw.row PySem.Challenge.rw_hillrows_k07_groves).prog 25) (kwd := []) Hl.obL_eq
    (by kernel_rfl) (fun s => by kernel_rfl) Hl.runL (by kernel_rfl) (by kernel_rfl) (by kernel_rfl) (by rfl) (by first | assumption | decide +kernel) (by decide +kernel) ⟨rfl, rfl, rfl, rfl, rfl, by decide +kernel⟩ ?hw ?hc
  case hw => w_witness2
  case hc =>
    refine L2.walk_ofE (l := PySem.Challenge.rw_hillrows_k07_groves) (n := 63) (k := 204) (x := "_law_script") (CX := L2.CX0) rfl (by decide) (by kernel_rfl) ⟨rfl, by decide, by decide⟩ ?F (fun _ _ _ _ z => z)
    intro w mg fa h Y G hmg0
    obtain ⟨K, KX, c⟩ := Y
    have hmg : mg ("law" : PySem.Str) = some (.ref fa) := by
      have e : (HandSHeadRun.topDef (OpenLaw.row PySem.Challenge.rw_hillrows_k07_groves).prog 25).name = ("law" : PySem.Str) := by kernel_rfl
      rw [← e]
      exact hmg0
    obtain ⟨fd, hb, hF⟩ := Hl.facts (P := (PySem.Challenge.rw_hillrows_k07_groves).prog) (w := w) KX G hmg c.t.d c.more
    exact ⟨K, fd, Hl.spLaw K, KX, hb, fun H a ns hl _ hS => ⟨a, ns, rfl, hS, hl, fun _ => rfl⟩, hF⟩
#print axioms PySem.Challenge.cw_hillrows_k07_groves_holds
