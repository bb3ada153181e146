import PyProof.Rows.All
import Wide.All
import OpenK.AllK
import Wide.FinOn
import HandS.ForMost
import HandS.ForExc
import HandS.Codes
import HandS.IsInst
import HandS.Defaults
import HandS.StrMore
import HandS.RevRange
import HandS.Style
import HandS.Flow
import HandS.Evl
import HandS.TupAny
import HandS.Head0
import HandS.Head1
import HandS.Head2
import HandS.HeadEnd
import HandS.HeadHook1
import HandS.HeadHook2
import HandS.HeadHook3
import HandS.HeadHook4
import HandS.HeadWalk
import HandS.Walk
import PySem.Challenge.RW_hillrows_k03_ways
set_option Elab.async false
set_option linter.all false
set_option maxRecDepth 100000
set_option maxHeartbeats 4000000
/-! The layer's own additions for this program: callable defs, constants, classes of refusals. -/
namespace Hl
open PySem PySem.Spec PyProof.Rows L2 Evl
/-- a def that may be called by its name x: its level, its promise, the defaults that fill up -/
structure Cal (P : Program) (w : World) (K : PySem.W.Frag) (mg : Str → Option Value) (base : Heap) (k : Nat) (x : Str) (sp : Sp) (dvs : List V) : Prop where
  ex : ∃ (f : Addr) (fd : FuncData) (ps : List Str) (ds : List Value), FnOk P w K mg base (L2.CX P w) k f fd ps sp ∧ mg x = some (.ref f) ∧ PySem.W.keepIn K (.ref f) = true ∧ Binds K fd ps ds ∧ Vals dvs ds
section
variable {X : Cx} {j k : Nat} {x : Str} {sp : Sp} {dvs : List V} {E : XK} {p pos : Pos} {e : Expr} {es : List Expr} {t : TA}
theorem pe_cal (c : Cal X.prog X.w X.K X.mg X.base k x sp dvs) (hr : Room j X.A) (hk : k ≤ j) (hg : Gl X x) (hx : Passes (L2.CX X.prog X.w) X E) (ha : PA X (e :: es) t) (hdb : (x == ("__debug__" : Str)) = false := by decide)
    (he : starEach (e :: es) X.env = (false, eval e X.env) :: starEach es X.env := by rfl) (hpl : (backTo pos (starEach es X.env)).any (·.1) = false := by rfl) :
    PE X (.Call (.Name x p) (e :: es) [] pos) (tCall sp dvs E t) := by
  obtain ⟨f, fd, ps, ds, F, hm, kp, b, d⟩ := c.ex
  exact pe_call F (hr.mono hk) hg hm kp b d hx ha hdb he hpl
/-- in a try's body: what it wishes may speak of the slots -/
theorem run_fnD {CX : CXT} {f : Addr} {fd : FuncData} {ps : List Str} {ds : List Value} {E : L2.St → XK} {pins : List (Addr × Obj)} {σ : L2.St} {H : Hp} {s : Shared} {Q : VK} {us : List Value} {vs : List V} (F : FnOk X.prog X.w X.K X.mg X.base CX k f fd ps sp) (hr : Room k X.A) (hb : Binds X.K fd ps ds) (hd : Vals dvs ds) (hx : PassesAt CX X σ (E σ))
    (I : Inv X pins σ H s) (r : Vals vs us) (h : sp (vs ++ dvs) H Q (E σ)) : wpAny (model X.prog X.w) X.A (call (.ref f) us) (EP X pins σ Q) X.xe s := by
  have r2 : Vals (vs ++ dvs) (us ++ ds) := r.append hd
  have hl : (us ++ ds).length = ps.length := by rw [← r2.length]; exact F.len _ _ _ _ h
  refine wpAny_call (codeAny_mono (F.run X.A X.stack s H ⟨us, []⟩ (us ++ ds) (vs ++ dvs) Q (E σ) hr I.env0 (hb s us I.kIn hl) r2 h) fun r s' hq => ?_)
  cases r with
  | error e => exact hx pins H s e s' I hq
  | ok fl =>
    cases fl with
    | ret u => exact I.after hq
    | next => exact False.elim hq
    | brk => exact False.elim hq
    | cont => exact False.elim hq
def tCallD (sp : Sp) (dvs : List V) (E : L2.St → XK) (t : TA) : TE := fun σ H Q => t σ H fun vs H1 => sp (vs ++ dvs) H1 Q (E σ)
theorem pe_calS {E : L2.St → XK} (c : Cal X.prog X.w X.K X.mg X.base k x sp dvs) (hr : Room j X.A) (hk : k ≤ j) (hg : Gl X x) (hx : ∀ σ, PassesAt (L2.CX X.prog X.w) X σ (E σ)) (ha : PA X (e :: es) t) (hdb : (x == ("__debug__" : Str)) = false := by decide)
    (he : starEach (e :: es) X.env = (false, eval e X.env) :: starEach es X.env := by rfl) (hpl : (backTo pos (starEach es X.env)).any (·.1) = false := by rfl) :
    PE X (.Call (.Name x p) (e :: es) [] pos) (tCallD sp dvs E t) := by
  obtain ⟨f, fd, ps, ds, F, hm, kp, b, d⟩ := c.ex
  refine ⟨fun pins s σ H Q I h => ?_⟩
  refine wpAny_Call_Name_kw (ld_glob I hg hm ?_ hdb)
  refine PySem.W.callWith_K (h₀ := X.base) I.ok.mod.kin kp (thn (ha.run pos pins s σ H _ I h) fun us s1 ⟨vs, H1, I1, r, q⟩ => ⟨I1.kIn, ?_⟩) he hpl
  exact run_fnD F (hr.mono hk) b d (hx σ) I1 r q
/-- a module's constant -/
def Cst (mg : Str → Option Value) (x : Str) (v : V) : Prop := ∃ u, mg x = some u ∧ RelV v u
theorem pe_cst {v : V} (hg : Gl X x) (h : Cst X.mg x v) (hd : (x == ("__debug__" : Str)) = false := by decide) : PE X (.Name x pos) (tC v) := by
  obtain ⟨u, hm, r⟩ := h
  exact pe_glob hg hm r hd
/-- a class of refusals: raised by its name with a text -/
structure Exc (K : PySem.W.Frag) (mg : Str → Option Value) (x : Str) (C : Addr) : Prop where
  g : mg x = some (.ref C)
  q : PySem.W.excIn K C He.veBase "ValueError.__new__" = true
  k : PySem.W.keepIn K (.ref C) = true
  s : PySem.W.subIn K (.ref C) (.type "BaseException") = some true
  t : PySem.W.typeIn K (.ref C) = some (.type "type")
theorem Exc.mk' {C : Addr} {m : Str} {jn : Nat} {p2 : Pos} (T : Exc X.K X.mg x C) (hg : Gl X x := by rfl) (hdb : (x == ("__debug__" : Str)) = false := by decide) : PMk X (.Call (.Name x p) [.Constant (.str m) jn p2] [] pos) (fun _ H Q => Q (.ref C) none H) :=
  pmk_own PySem.F.excBase_ValueError T.q T.g T.k (raises_own T.s T.t) hg hdb
end
/-- no exception is let out of a comprehension, nor wished for -/
theorem passX0 {X : Cx} : Passes (L2.CX X.prog X.w) X E0 := passL
end Hl
namespace Hl
open PySem PySem.Spec PyProof.Rows L2 Evl
section
variable {P : Program} {w : World} {K : PySem.W.Frag} {mg : Str → Option Value} {base : Heap} {N : List Str} {qual : Str} {sc : Scope} {f : Addr} {cd : Value} {A : Around} {outer : List Env} {s : Shared} {H : Hp} {E : XK}
theorem tkOf : Takes (cxOf (L2.CX P w) P w K mg base N qual sc f cd A outer s H E) (fun cls d _ H => E cls d H) := takes_of rfl rfl rfl rfl
theorem hxOf : Passes (L2.CX (cxOf (L2.CX P w) P w K mg base N qual sc f cd A outer s H E).prog (cxOf (L2.CX P w) P w K mg base N qual sc f cd A outer s H E).w) (cxOf (L2.CX P w) P w K mg base N qual sc f cd A outer s H E) E := passes_call tkOf (fun _ _ _ _ h => h)
theorem hpOf : PassesOwn (model (cxOf (L2.CX P w) P w K mg base N qual sc f cd A outer s H E).prog (cxOf (L2.CX P w) P w K mg base N qual sc f cd A outer s H E).w) (cxOf (L2.CX P w) P w K mg base N qual sc f cd A outer s H E).A (cxOf (L2.CX P w) P w K mg base N qual sc f cd A outer s H E).env (cxOf (L2.CX P w) P w K mg base N qual sc f cd A outer s H E).xe := passes_of rfl
end
/-- a def of the text -/
abbrev FnP (K : PySem.W.Frag) (x : Str) (st : Stmt) (dvs : List V) (f : Addr) (fd : FuncData) : Prop := FunD K x x (defArgs st) (defBody st) (defScope st) dvs [] f fd
/-- the built-in names that the module leaves free -/
structure Blt (mg : Str → Option Value) : Prop where
  len : mg "len" = none
  min : mg "min" = none
  max : mg "max" = none
  sum : mg "sum" = none
  sorted : mg "sorted" = none
  isinstance : mg "isinstance" = none
  int : mg "int" = none
  bool : mg "bool" = none
  str : mg "str" = none
  list : mg "list" = none
  tuple : mg "tuple" = none
  set : mg "set" = none
  range : mg "range" = none
  enumerate : mg "enumerate" = none
  zip : mg "zip" = none
  reversed : mg "reversed" = none
  ValueError : mg "ValueError" = none
/-- what an expression gives: P of the value and the heap behind it -/
def EvG (te : TE) (σ : L2.St) (H : Hp) (P : V → Hp → Prop) : Prop := ∀ H1, Ex H H1 → ∀ Q : VK, (∀ v H2, Ex H1 H2 → P v H2 → Q v H2) → te σ H1 Q
def rg (P : V → Hp → Prop) (H : Hp) (Q : VK) : Prop := ∀ v H', Ex H H' → P v H' → Q v H'
def SpG (sp : Sp) (vs : List V) (H : Hp) (P : V → Hp → Prop) : Prop := ∀ H1, Ex H H1 → ∀ Q : VK, rg P H1 Q → ∀ E : XK, sp vs H1 Q E
/-- a refusal of the class at C -/
def rx (C : Addr) (H : Hp) (E : XK) : Prop := ∀ H', Ex H H' → E (.ref C) none H'
section
variable {sp : Sp} {dvs : List V} {E : XK} {ta : TA} {te : TE} {σ : L2.St} {H H' : Hp} {vs : List V} {v : V} {xs : List V} {P : V → Hp → Prop} {D : Ends} {tz : TS}
theorem EvG.mono (e : Ex H H') (h : EvG te σ H P) : EvG te σ H' P := fun H1 a Q q => h H1 (e.trans a) Q q
theorem eg_call (h : EvA ta σ H vs) (hs : SpG sp (vs ++ dvs) H P) : EvG (tCall sp dvs E ta) σ H P := fun H1 e Q q =>
  h H1 e _ fun H2 e2 => hs H2 (e.trans e2) Q (fun v H3 e3 h3 => q v H3 (e2.trans e3) h3) E
theorem s_asgG {i : Nat} (h : EvG te σ H P) (k : ∀ v H1, Ex H H1 → P v H1 → D.nx (σ.set i (some v)) H1) : tAsg te (gName i) D σ H := h H (Ex.refl H) _ fun v H1 e p => k v H1 e p
theorem q_asgG {i : Nat} (h : EvG te σ H P) (k : ∀ v H1, Ex H H1 → P v H1 → tz D (σ.set i (some v)) H1) : tSeq (tAsg te (gName i)) tz D σ H := s_asgG (D := { D with nx := tz D }) h k
theorem s_retG (h : EvG te σ H P) (k : ∀ v H1, Ex H H1 → P v H1 → D.rt v H1) : tRet te D σ H := h H (Ex.refl H) _ k
theorem Ev.ret (h : Ev te σ H v) {Q : VK} (q : RetV v H Q) : te σ H Q := h H (Ex.refl H) Q q
/-- an argument list whose first item is such a thing -/
theorem ev_call1 {sp : Sp} {z : V} {t1 : TE} {t2 : TA} (h1 : EvG t1 σ H P) (h2 : EvA t2 σ H vs) (hs : ∀ v H1, Ex H H1 → P v H1 → SpV sp (v :: (vs ++ dvs)) H1 z) : Ev (tCall sp dvs E (tCons t1 t2)) σ H z := fun H1 e Q q =>
  h1 H1 e _ fun v H2 e2 p => h2 H2 (e.trans e2) _ fun H3 e3 => hs v H2 (e.trans e2) p H3 e3 Q (fun H4 e4 => q H4 ((e2.trans e3).trans e4)) E
/-- a chain of two comparisons of whole numbers -/
theorem ev_chain {r r' : R2} {ta tb tc : TE} {x y z : V} {a b : Bool} (h1 : Ev ta σ H x) (h2 : Ev tb σ H y) (hr : RV r x y H (.bl a)) (h3 : Ev tc σ H z) (hr' : RV r' y z H (.bl b)) : Ev (tChain r r' ta tb tc) σ H (.bl (a && b)) := fun H1 e Q q =>
  h1 H1 e _ fun H2 e2 => h2 H2 (e.trans e2) _ fun H3 e3 => hr H3 ((e.trans e2).trans e3) _ fun H4 e4 => ⟨a, rfl, by
    have eE := ((e.trans e2).trans e3).trans e4
    have eR := (e2.trans e3).trans e4
    cases a with
    | true =>
      rw [if_pos rfl]
      exact h3 H4 eE _ fun H5 e5 => hr' H5 (eE.trans e5) Q fun H6 e6 => q H6 ((eR.trans e5).trans e6)
    | false =>
      rw [if_neg Bool.false_ne_true]
      exact q H4 eR⟩
theorem et_val {b : Bool} (h : Ev te σ H (.bl b)) : EvT (tB te) σ H b := et_B h
end
end Hl
/-! ### lists made of lists -/
namespace Hl
open PySem PySem.Spec PyProof.Rows L2 Evl
section
variable {K : PySem.W.Frag} {σ : L2.St} {H H' : Hp} {ta tb te : TE} {xs ys : List V} {D : Ends} {tz : TS}
theorem el_cat (ha : EvL ta σ H xs) (hb : EvL tb σ H ys) (hz : xs.length + ys.length ≤ 100000) : EvL (tOp rCat ta tb) σ H (xs ++ ys) := fun H1 e Q q =>
  ha H1 e _ fun a H2 na e2 h2 => hb H2 (e.trans e2) _ fun b H3 nb e3 h3 => ⟨a, b, xs, ys, rfl, rfl, e3 a _ h2, h3, sz_of hz, fun p np => q p _ (fresh_back (e2.trans e3) np) ((e2.trans e3).trans (Ex.new np)) upd_same⟩
/-- the left one stands, the right one is new -/
theorem el_catV {a : Addr} (ha : Ev ta σ H (.ref a)) (h : H a = some (.lst xs)) (hb : EvL tb σ H ys) (hz : xs.length + ys.length ≤ 100000) : EvL (tOp rCat ta tb) σ H (xs ++ ys) := fun H1 e Q q =>
  ha H1 e _ fun H2 e2 => hb H2 (e.trans e2) _ fun b H3 nb e3 h3 => ⟨a, b, xs, ys, rfl, rfl, ((e.trans e2).trans e3) a _ h, h3, sz_of hz, fun p np => q p _ (fresh_back (e2.trans e3) np) ((e2.trans e3).trans (Ex.new np)) upd_same⟩
/-- the left one is new, the right one stands -/
theorem el_catW {b : Addr} (ha : EvL ta σ H xs) (hb : ∀ H1, Ex H H1 → Ev tb σ H1 (.ref b)) (h : H b = some (.lst ys)) (hz : xs.length + ys.length ≤ 100000) : EvL (tOp rCat ta tb) σ H (xs ++ ys) := fun H1 e Q q =>
  ha H1 e _ fun a H2 na e2 h2 => hb H2 (e.trans e2) H2 (Ex.refl H2) _ fun H3 e3 => ⟨a, b, xs, ys, rfl, rfl, e3 a _ h2, ((e.trans e2).trans e3) b _ h, sz_of hz, fun p np => q p _ (fresh_back (e2.trans e3) np) ((e2.trans e3).trans (Ex.new np)) upd_same⟩
theorem el_rep {k : Int} (ha : EvL ta σ H xs) (hb : Ev tb σ H (.int k)) (h0 : 0 ≤ k ∧ k ≤ 100000) (hz : xs.length * k.toNat ≤ 100000) : EvL (tOp rRep ta tb) σ H (List.replicate k.toNat xs).flatten := fun H1 e Q q =>
  ha H1 e _ fun a H2 na e2 h2 => hb H2 (e.trans e2) _ fun H3 e3 => ⟨a, k, xs, rfl, rfl, e3 a _ h2, by omega, by omega, sz_of hz, fun p np => q p _ (fresh_back (e2.trans e3) np) ((e2.trans e3).trans (Ex.new np)) upd_same⟩
theorem el_is {zs : List V} (h : EvL te σ H xs) (e : xs = zs) : EvL te σ H zs := by
  rw [← e]
  exact h
/-- x = [a new list] -/
theorem q_asgLL {i : Nat} (h : EvL te σ H xs) (k : ∀ a p H1, H a = none → H p = none → a ≠ p → Ex H H1 → H1 a = some (.lst xs) → H1 p = some (.lst [.ref a]) → tz D (σ.set i (some (.ref p))) H1) : tSeq (tAsg (tLst (tCons te tNil)) (gName i)) tz D σ H := by
  refine h H (Ex.refl H) _ fun a H1 na e1 h1 => ?_
  refine ⟨by show 1 ≤ sizeLine; decide, fun p np => ?_⟩
  exact k a p _ na (fresh_back e1 np) (ne_of_none h1 np) (e1.trans (Ex.new np)) (Ex.new np a _ h1) upd_same
theorem q_asgLU {i : Nat} (h : EvU te σ H xs) (k : ∀ a p H1, H a = none → H p = none → a ≠ p → Ex H H1 → H1 a = some (.tup xs) → H1 p = some (.lst [.ref a]) → tz D (σ.set i (some (.ref p))) H1) : tSeq (tAsg (tLst (tCons te tNil)) (gName i)) tz D σ H := by
  refine h H (Ex.refl H) _ fun a H1 na e1 h1 => ?_
  refine ⟨by show 1 ≤ sizeLine; decide, fun p np => ?_⟩
  exact k a p _ na (fresh_back e1 np) (ne_of_none h1 np) (e1.trans (Ex.new np)) (Ex.new np a _ h1) upd_same
theorem neg_one_at {as : List V} {i : Nat} {v : V} (h : as.length = i + 1) (hv : as[i]? = some v) : atI as (-1) = some v := by
  have h1 : atI as (-1) = (ixN as.length (-1)).bind fun j => as[j]? := rfl
  rw [h1, h]
  have h2 : ixN (i + 1) (-1) = some i := by
    unfold ixN
    rw [if_neg (by decide), if_pos (by omega)]
    congr 1
    omega
  rw [h2]
  exact hv
theorem map_int_get {ns : List Int} {i : Nat} {z : Int} (h : ns[i]? = some z) : (ns.map V.int)[i]? = some (.int z) := by
  rw [List.getElem?_map, h]
  rfl
theorem at_int {ns : List Int} {i : Nat} {z y : Int} (e : y = (i : Int)) (h : ns[i]? = some z) : atI (ns.map V.int) y = some (.int z) := at_of e (map_int_get h)
theorem at_ref {as : List Addr} {i : Nat} {a : Addr} {y : Int} (e : y = (i : Int)) (h : as[i]? = some a) : atI (as.map V.ref) y = some (.ref a) := at_of e (by rw [List.getElem?_map, h]; rfl)
end
end Hl
/-! ### the texts of rows -/
namespace Hl
open PySem PySem.Spec PyProof.Rows L2 Evl
def sg (b : Bool) : Nat := if b = true then 117 else 100
/-- a row's text -/
def rowS (w : List Bool) : Str := SX.S (w.map sg)
theorem rowS_len (w : List Bool) : (rowS w).length = w.length := by unfold rowS; rw [SX.S_len, List.length_map]
theorem rowS_cat (a b : List Bool) : rowS a ++ rowS b = rowS (a ++ b) := by unfold rowS; rw [SX.S_cat, List.map_append]
theorem sg_inj {a b : Bool} (h : sg a = sg b) : a = b := by
  cases a <;> cases b <;> first | rfl | cases h
theorem map_sg_inj : ∀ {a b : List Bool}, a.map sg = b.map sg → a = b
  | [], [], _ => rfl
  | [], _ :: _, h => by cases h
  | _ :: _, [], h => by cases h
  | x :: a, y :: b, h => by
    rw [List.map_cons, List.map_cons] at h
    injection h with h1 h2
    rw [sg_inj h1, map_sg_inj h2]
theorem rowS_inj {a b : List Bool} (h : rowS a = rowS b) : a = b := map_sg_inj (SX.S_inj h)
theorem lit_u : ("u" : Str) = rowS [true] := by decide +kernel
theorem lit_d : ("d" : Str) = rowS [false] := by decide +kernel
theorem lit_e : ("" : Str) = rowS [] := by decide +kernel
theorem row_u (w : List Bool) : rowS w ++ ("u" : Str) = rowS (w ++ [true]) := by rw [lit_u, rowS_cat]
theorem row_d (w : List Bool) : rowS w ++ ("d" : Str) = rowS (w ++ [false]) := by rw [lit_d, rowS_cat]
theorem len_u : ("u" : Str).length = 1 := by decide +kernel
theorem len_d : ("d" : Str).length = 1 := by decide +kernel
theorem rv_add {i j : Str} {H : Hp} (h : i.length + j.length ≤ 100000) : RV (fun x y H Q => ∃ i j, x = .str i ∧ y = .str j ∧ i.length + j.length ≤ sizeLine ∧ Q (.str (i ++ j)) H) (.str i) (.str j) H (.str (i ++ j)) := fun H1 _ Q q => ⟨i, j, rfl, rfl, sz_of h, q H1 (Ex.refl H1)⟩
theorem ev_rowU {σ : L2.St} {H : Hp} {ta tb : TE} {w : List Bool} (h1 : Ev ta σ H (.str (rowS w))) (h2 : Ev tb σ H (.str "u")) (hl : w.length ≤ 90000) : Ev (tOp (fun x y H Q => ∃ i j, x = .str i ∧ y = .str j ∧ i.length + j.length ≤ sizeLine ∧ Q (.str (i ++ j)) H) ta tb) σ H (.str (rowS (w ++ [true]))) := by
  rw [← row_u]
  exact ev_op h1 h2 (rv_add (by rw [rowS_len, len_u]; omega))
theorem ev_rowD {σ : L2.St} {H : Hp} {ta tb : TE} {w : List Bool} (h1 : Ev ta σ H (.str (rowS w))) (h2 : Ev tb σ H (.str "d")) (hl : w.length ≤ 90000) : Ev (tOp (fun x y H Q => ∃ i j, x = .str i ∧ y = .str j ∧ i.length + j.length ≤ sizeLine ∧ Q (.str (i ++ j)) H) ta tb) σ H (.str (rowS (w ++ [false]))) := by
  rw [← row_d]
  exact ev_op h1 h2 (rv_add (by rw [rowS_len, len_d]; omega))
/-- two lists side by side -/
theorem paired_get {α β : Type} {F : α → β → Prop} : ∀ {as : List α} {bs : List β} {i : Nat} {a : α}, Paired F as bs → as[i]? = some a → ∃ b, bs[i]? = some b ∧ F a b
  | _, _, _, _, .nil, h => by simp at h
  | _, _, 0, _, .cons r _, h => by simp at h; subst h; exact ⟨_, rfl, r⟩
  | _, _, i + 1, a, .cons _ t, h => by
    obtain ⟨b, h1, h2⟩ := paired_get (i := i) (a := a) t (by simpa using h)
    exact ⟨b, by simpa using h1, h2⟩
theorem paired_app {α β : Type} {F : α → β → Prop} : ∀ {as : List α} {bs : List β} {cs : List α} {ds : List β}, Paired F as bs → Paired F cs ds → Paired F (as ++ cs) (bs ++ ds)
  | _, _, _, _, .nil, s => s
  | _, _, _, _, .cons r t, s => .cons r (paired_app t s)
theorem paired_one {α β : Type} {F : α → β → Prop} {a : α} {b : β} (h : F a b) : Paired F [a] [b] := .cons h .nil
theorem paired_mono {α β : Type} {F G : α → β → Prop} (h : ∀ a b, F a b → G a b) : ∀ {as : List α} {bs : List β}, Paired F as bs → Paired G as bs
  | _, _, .nil => .nil
  | _, _, .cons r t => .cons (h _ _ r) (paired_mono h t)
theorem paired_len {α β : Type} {F : α → β → Prop} {as : List α} {bs : List β} (h : Paired F as bs) : as.length = bs.length := Paired.length h
theorem take_snoc {α : Type} {l : List α} {i : Nat} {x : α} (h : l[i]? = some x) : l.take (i + 1) = l.take i ++ [x] := by
  rw [List.take_add_one, h]
  rfl
theorem given_filter {α : Type} (l : List α) (p : α → Bool) (g : α → V) (f : Nat → Bool) (v : Nat → V) (h : ∀ i x, l[i]? = some x → f i = p x ∧ v i = g x) : given l.length f v = (l.filter p).map g := by
  have key : ∀ n, n ≤ l.length → given n f v = ((l.take n).filter p).map g := by
    intro n
    induction n with
    | zero => intro _; rfl
    | succ n ih =>
      intro hn
      have hx : l[n]? = some l[n] := List.getElem?_eq_getElem (by omega)
      obtain ⟨h1, h2⟩ := h n _ hx
      rw [take_snoc hx, List.filter_append, List.map_append, ← ih (by omega)]
      cases hf : f n with
      | true =>
        rw [given_yes hf, h2, List.filter_cons, if_pos (by rw [← h1]; exact hf)]
        rfl
      | false =>
        rw [given_no hf, List.filter_cons, if_neg (by rw [← h1, hf]; decide)]
        simp
  rw [key l.length (Nat.le_refl _), List.take_length]
theorem given_all {α : Type} (l : List α) (g : α → V) (v : Nat → V) (h : ∀ i x, l[i]? = some x → v i = g x) : given l.length (fun _ => true) v = l.map g := by
  rw [given_filter l (fun _ => true) g (fun _ => true) v fun i x hx => ⟨rfl, h i x hx⟩, List.filter_eq_self.mpr fun _ _ => rfl]
end Hl
/-! ### lists of numbers cut -/
namespace Hl
open PySem PySem.Spec PyProof.Rows L2 Evl
theorem cut_map (ns : List Int) (lo hi : Option Int) : ∃ ms : List Int, cutV (ns.map V.int) lo hi = ms.map V.int ∧ ms.length ≤ ns.length ∧ (lo = none → ∀ j : Nat, hi = some (j : Int) → ms = ns.take j) := by
  refine ⟨(ns.drop (HT.sIx ns.length 0 lo)).take (HT.sIx ns.length ns.length hi - HT.sIx ns.length 0 lo), ?_, ?_, ?_⟩
  · unfold cutV
    rw [List.length_map, List.map_take, List.map_drop]
  · rw [List.length_take, List.length_drop]
    omega
  · rintro rfl j rfl
    rw [HT.sIx_none, show HT.sIx ns.length ns.length (some (j : Int)) = min j ns.length from HT.sIx_nat _ _ _]
    simp
theorem int_at {ms : List Int} {i : Nat} {x : V} (h : (ms.map V.int)[i]? = some x) : ∃ z, ms[i]? = some z ∧ x = .int z := by
  rw [List.getElem?_map] at h
  cases e : ms[i]? with
  | none => rw [e] at h; cases h
  | some z => rw [e] at h; exact ⟨z, rfl, (Option.some.inj h).symm⟩
/-- an item of a list that is made on the way -/
theorem ev_pick {K : PySem.W.Frag} {σ : L2.St} {H : Hp} {ta tb : TE} {xs : List V} {i : Int} {v : V} (ha : EvL ta σ H xs) (hb : Ev tb σ H (.int i)) (hv : atI xs i = some v) : Ev (tOp (rIxL K) ta tb) σ H v :=
  ev_opL1 ha (fun H1 e => hb.mono e) fun p H1 hp _ => rv_ixL (sq_of hp) hv
theorem pick2 {x y : V} {i : Int} (h0 : 0 ≤ i) (h2 : i < 2) : atI [x, y] i = some (if i = 0 then x else y) := by
  rcases (show i = 0 ∨ i = 1 by omega) with rfl | rfl
  · rfl
  · rfl
end Hl
/-! ### the end's pieces -/
namespace Hl
open PySem PySem.Spec PyProof.Rows L2 Evl
section
variable {P : Program} {w : World} {K : PySem.W.Frag} {mg : Str → Option Value} {base : Heap} {f : Addr} {fd : FuncData} {k : Nat} {ps : List Str} {sp : Sp} {x : Str} {h : Heap}
/-- a def whose promise does not hang on what is wished of exceptions lets none out -/
theorem noX (F : FnOk P w K mg base (L2.CX P w) k f fd ps sp) (hs : ∀ vs H Q E, sp vs H Q E → sp vs H Q E0) : FnOk P w K mg base CX0 k f fd ps sp := by
  refine ⟨F.len, fun A outer s H args us vs Q E hr he hb hv h => ?_⟩
  refine codeAny_mono (F.run A outer s H args us vs Q E0 hr he hb hv (hs _ _ _ _ h)) fun r s' hq => ?_
  cases r with
  | error e =>
    obtain ⟨_, _, _, _, _, _, _, _, _, _, _, _, z⟩ := hq
    exact z.elim
  | ok fl =>
    cases fl with
    | ret u => exact hq
    | next => exact hq
    | brk => exact hq
    | cont => exact hq
theorem cal_of (F : FnOk P w K mg base (L2.CX P w) k f fd ps sp) (hm : mg x = some (.ref f)) (kp : PySem.W.keepIn K (.ref f) = true) (b : Binds K fd ps []) : Cal P w K mg base k x sp [] := ⟨f, fd, ps, [], F, hm, kp, b, .nil⟩
theorem cal_d {dv : List V} (F : FnOk P w K mg base (L2.CX P w) k f fd ps sp) (hm : mg x = some (.ref f)) (kp : PySem.W.keepIn K (.ref f) = true) (b : ∃ ds, Vals dv ds ∧ Binds K fd ps ds) : Cal P w K mg base k x sp dv := by
  obtain ⟨ds, r, b⟩ := b
  exact ⟨f, fd, ps, ds, F, hm, kp, b, r⟩
theorem binds_nil {K : PySem.W.Frag} {fd : FuncData} {ps : List Str} (b : ∃ ds, Vals [] ds ∧ Binds K fd ps ds) : Binds K fd ps [] := by
  obtain ⟨ds, r, b⟩ := b
  cases r
  exact b
theorem cst_int (X : K.In h) (G : h.Ns mainGlobals mg) {i : Int} (c : (He.Fa.int x i).ok K = true) : Cst mg x (.int i) := by
  obtain ⟨t, e⟩ := He.int_ok X G c
  exact ⟨_, e, t, rfl⟩
theorem exc_of (X : K.In h) (G : h.Ns mainGlobals mg) (c : (He.Fa.exc x).ok K = true) (g : (He.Fa.glo x).ok K = true) : Exc K mg x (He.ga K x) := by
  obtain ⟨h1, h2⟩ := He.ba (show (PySem.W.excIn K (He.ga K x) He.veBase "ValueError.__new__" && (PySem.W.keepIn K (.ref (He.ga K x)) && (decide (PySem.W.subIn K (.ref (He.ga K x)) (.type "BaseException") = some true) && decide (PySem.W.typeIn K (.ref (He.ga K x)) = some (.type "type"))))) = true from c)
  obtain ⟨h3, h4⟩ := He.ba h2
  obtain ⟨h5, h6⟩ := He.ba h4
  exact ⟨He.glo_ok X G g, h1, h3, of_decide_eq_true h5, of_decide_eq_true h6⟩
end
end Hl
/-! Loops and comprehensions over anything that is walked, over readings that leave what is known. -/
namespace Hl
open PySem PySem.Spec PyProof.Rows L2 Evl
/-- an iterable's reading: the walk that comes and the heap behind it -/
def EvI (wi : TI) (σ : L2.St) (H : Hp) (PJ : It → Hp → Prop) : Prop := ∀ H1, Ex H H1 → ∀ R : It → Hp → Prop, (∀ J H2, Ex H1 H2 → PJ J H2 → R J H2) → wi σ H1 R
/-- n turns, as long as the heap grows only -/
def WalkX (n : Nat) (Y : Nat → Hp → V → Hp → Prop) : It → Hp → Prop := fun J H => ∃ G : Hp → Prop, Walk J n G Y ∧ G H ∧ ∀ H H', G H → Ex H H' → G H'
section
variable {K : PySem.W.Frag} {σ : L2.St} {H H' : Hp} {tl tl2 te : TE} {tt : TT} {wi : TI} {g : TG} {vs : List Nat} {n : Nat} {Y : Nat → Hp → V → Hp → Prop} {xs ys : List V} {D : Ends} {tu tz : TS}
theorem el_lcW (f : Nat → Bool) (v : Nat → V) (hi : EvI wi σ H (WalkX n Y)) (hn : n < 50000)
    (hs : ∀ i Hi x H', i < n → Ex H Hi → Y i Hi x H' → Ex Hi H' ∧ ∃ σ2, (∀ Q : L2.St → Hp → Prop, Q σ2 H' → g x (wipe σ vs) H' Q) ∧ wipe σ2 vs = wipe σ vs ∧ EvT tt σ2 H' (f i) ∧ (f i = true → Ev te σ2 H' (v i))) :
    EvL (tLc wi g tt te vs) σ H (given n f v) := fun H0 e Q q => hi H0 e _ fun J H1 e1 ⟨G, w, g1, gm⟩ Dl hD =>
  lc_it w (fun i H' => Cw H1 f v Dl i H' ∧ G H') ⟨⟨hD, Ex.new hD, upd_same⟩, gm _ _ g1 (Ex.new hD)⟩ (fun i H' _ p => p.2) (fun i x Hi H' hin p y => by
    obtain ⟨⟨p1, p2, p3⟩, pg⟩ := p
    obtain ⟨eY, σ2, hg, hw, ht, he⟩ := hs i Hi x H' hin ((e.trans e1).trans p2) y
    refine hg _ ⟨hw, ?_⟩
    refine ht H' (Ex.refl H') _ fun H3 e3 => ?_
    cases hf : f i with
    | true =>
      show te σ2 H3 _
      refine he hf H3 e3 _ fun H4 e4 => ⟨given i f v, e4 Dl _ (e3 Dl _ (eY Dl _ p3)), sz_lt (by have := given_len i f v; omega), ⟨p1, Ex.mut (((p2.trans eY).trans e3).trans e4) p1, ?_⟩, ?_⟩
      · rw [given_yes hf]
        exact upd_same
      · -- G survives: the list at Dl is not read by the walk
        exact gm _ _ g1 (Ex.mut (((p2.trans eY).trans e3).trans e4) p1)
    | false =>
      show _ ∧ G H3
      refine ⟨⟨p1, (p2.trans eY).trans e3, ?_⟩, gm _ _ pg (eY.trans e3)⟩
      rw [given_no hf]
      exact e3 Dl _ (eY Dl _ p3)) (fun H' p => q Dl H' (fresh_back e1 p.1.1) (e1.trans p.1.2.1) p.1.2.2)
/-! iterables -/
theorem ei_list {a : Addr} (h : Ev tl σ H (.ref a)) (hx : SqL K H a xs) : EvI (iList K tl) σ H (WalkX xs.length (YAt xs)) := fun H1 e R r =>
  h H1 e _ fun H2 e2 => ⟨a, rfl, ⟨xs, ex_l (e.trans e2) hx⟩, r _ H2 e2 ⟨_, walk_list, ex_l (e.trans e2) hx, fun _ _ q k => ex_l k q⟩⟩
theorem ei_listN (h : EvL tl σ H xs) : EvI (iList K tl) σ H (WalkX xs.length (YAt xs)) := fun H1 e R r =>
  h H1 e _ fun p H2 _ e2 h2 => ⟨p, rfl, ⟨xs, sq_of h2⟩, r _ H2 e2 ⟨_, walk_list, sq_of h2, fun _ _ q k => ex_l k q⟩⟩
theorem ei_tup {a : Addr} (h : Ev tl σ H (.ref a)) (hx : SqT K H a xs) : EvI (iTup K tl) σ H (WalkX xs.length (YAt xs)) := fun H1 e R r =>
  h H1 e _ fun H2 e2 => ⟨a, rfl, ⟨xs, ex_t (e.trans e2) hx⟩, r _ H2 e2 ⟨_, walk_tup, ex_t (e.trans e2) hx, fun _ _ q k => ex_t k q⟩⟩
theorem ei_str {z : Str} (h : Ev tl σ H (.str z)) : EvI (iStr tl) σ H (WalkX z.cps.size (fun i H v H' => H' = H ∧ ∃ c, z.cps[i]? = some c ∧ v = .str ⟨#[c]⟩)) := fun H1 e R r =>
  h H1 e _ fun H2 e2 => ⟨z, rfl, r _ H2 e2 ⟨_, walk_str, trivial, fun _ _ _ _ => trivial⟩⟩
theorem ei_enum {a : Addr} (h : Ev tl σ H (.ref a)) (hx : SqL K H a xs) : EvI (iEnum K (tCons tl tNil)) σ H (WalkX xs.length (YPair (fun i => some (.int (i : Nat))) (fun i => xs[i]?))) := fun H1 e R r =>
  h H1 e _ fun H2 e2 => ⟨a, xs, rfl, ex_l (e.trans e2) hx, r _ H2 e2 ⟨_, walk_enum, ex_l (e.trans e2) hx, fun _ _ q k => ex_l k q⟩⟩
theorem ei_enumN (h : EvL tl σ H xs) : EvI (iEnum K (tCons tl tNil)) σ H (WalkX xs.length (YPair (fun i => some (.int (i : Nat))) (fun i => xs[i]?))) := fun H1 e R r =>
  h H1 e _ fun p H2 _ e2 h2 => ⟨p, xs, rfl, sq_of h2, r _ H2 e2 ⟨_, walk_enum, sq_of h2, fun _ _ q k => ex_l k q⟩⟩
theorem ei_zip {a b : Addr} (h : Ev tl σ H (.ref a)) (hx : SqL K H a xs) (h2 : Ev tl2 σ H (.ref b)) (hy : SqL K H b ys) (hn : n = min xs.length ys.length) : EvI (iZip K (tCons tl (tCons tl2 tNil))) σ H (WalkX n (YPair (fun i => xs[i]?) (fun i => ys[i]?))) := fun H1 e R r =>
  h H1 e _ fun H2 e2 => h2 H2 (e.trans e2) _ fun H3 e3 => ⟨a, b, xs, ys, rfl, ex_l ((e.trans e2).trans e3) hx, ex_l ((e.trans e2).trans e3) hy, r _ H3 (e2.trans e3) ⟨_, walk_zip hn, ⟨ex_l ((e.trans e2).trans e3) hx, ex_l ((e.trans e2).trans e3) hy⟩, fun _ _ q k => ⟨ex_l k q.1, ex_l k q.2⟩⟩⟩
/-- what a pair's target stores -/
theorem g_pair {K : PySem.W.Frag} {i j : Nat} {T : Addr} {x y : V} {Q : L2.St → Hp → Prop} (h : SqT K H T [x, y]) (q : Q ((σ.set i (some x)).set j (some y)) H) : gTup K 2 (gCons (gName i) (gCons (gName j) gNil)) (.ref T) σ H Q :=
  ⟨T, [x, y], rfl, h, rfl, x, [y], rfl, y, [], rfl, rfl, q⟩
/-- a comprehension whose target is a name -/
theorem el_lc1 {Z : Nat → V → Prop} {j : Nat} (f : Nat → Bool) (v : Nat → V) (hi : EvI wi σ H (WalkX n (fun i H x H' => H' = H ∧ Z i x))) (hn : n < 50000) (hw : ∀ x, wipe ((wipe σ vs).set j (some x)) vs = wipe σ vs)
    (hs : ∀ i H1 x, i < n → Ex H H1 → Z i x → EvT tt ((wipe σ vs).set j (some x)) H1 (f i) ∧ (f i = true → Ev te ((wipe σ vs).set j (some x)) H1 (v i))) : EvL (tLc wi (gName j) tt te vs) σ H (given n f v) :=
  el_lcW f v hi hn fun i Hi x H' hin e y => by
    obtain ⟨rfl, z⟩ := y
    obtain ⟨h1, h2⟩ := hs i _ x hin e z
    exact ⟨Ex.refl _, _, fun Q q => q, hw x, h1, h2⟩
/-- .. a pair that is made at each turn -/
theorem el_lc2 {a b : Nat → Option V} {j1 j2 : Nat} (f : Nat → Bool) (v : Nat → V) (hi : EvI wi σ H (WalkX n (YPair a b))) (hn : n < 50000) (hw : ∀ x y, wipe (((wipe σ vs).set j1 (some x)).set j2 (some y)) vs = wipe σ vs)
    (hs : ∀ i H1 x y, i < n → Ex H H1 → a i = some x → b i = some y → EvT tt (((wipe σ vs).set j1 (some x)).set j2 (some y)) H1 (f i) ∧ (f i = true → Ev te (((wipe σ vs).set j1 (some x)).set j2 (some y)) H1 (v i))) :
    EvL (tLc wi (gTup K 2 (gCons (gName j1) (gCons (gName j2) gNil))) tt te vs) σ H (given n f v) :=
  el_lcW f v hi hn fun i Hi x H' hin e y => by
    obtain ⟨T, x1, y1, rfl, nT, rfl, ha, hb⟩ := y
    obtain ⟨h1, h2⟩ := hs i (upd Hi T (.tup [x1, y1])) x1 y1 hin (e.trans (Ex.new nT)) ha hb
    exact ⟨Ex.new nT, _, fun Q q => g_pair (st_of upd_same) q, hw x1 y1, h1, h2⟩
/-- .. over a list of pairs that stand -/
theorem el_lcP {a : Addr} {as : List Addr} {p1 p2 : Nat → V} {j1 j2 : Nat} (f : Nat → Bool) (v : Nat → V) (h : Ev tl σ H (.ref a)) (hx : SqL K H a (as.map V.ref)) (hp : ∀ i b, as[i]? = some b → SqT K H b [p1 i, p2 i]) (hn : as.length < 50000)
    (hw : ∀ x y, wipe (((wipe σ vs).set j1 (some x)).set j2 (some y)) vs = wipe σ vs)
    (hs : ∀ i H1, i < as.length → Ex H H1 → EvT tt (((wipe σ vs).set j1 (some (p1 i))).set j2 (some (p2 i))) H1 (f i) ∧ (f i = true → Ev te (((wipe σ vs).set j1 (some (p1 i))).set j2 (some (p2 i))) H1 (v i))) :
    EvL (tLc (iList K tl) (gTup K 2 (gCons (gName j1) (gCons (gName j2) gNil))) tt te vs) σ H (given as.length f v) := by
  have := el_lcW (g := gTup K 2 (gCons (gName j1) (gCons (gName j2) gNil))) (tt := tt) (te := te) (vs := vs) f v (ei_list h hx) (by simpa using hn) fun i Hi x H' hin e y => by
    obtain ⟨rfl, hy⟩ := y
    simp at hin
    rw [List.getElem?_map] at hy
    obtain ⟨b, hb⟩ : ∃ b, as[i]? = some b := ⟨as[i], by rw [List.getElem?_eq_getElem hin]⟩
    rw [hb] at hy
    cases hy
    obtain ⟨h1, h2⟩ := hs i _ hin e
    exact ⟨Ex.refl _, _, fun Q q => g_pair (ex_t e (hp i b hb)) q, hw _ _, h1, h2⟩
  rw [List.length_map] at this
  exact this
/-! for loops -/
theorem s_forStr {z : Str} {j : Nat} (h : Ev tl σ H (.str z)) (Pv : Nat → L2.St → Hp → Prop) (h0 : ∀ H1, Ex H H1 → Pv 0 σ H1)
    (hs : ∀ i c σ' H', z.cps[i]? = some c → Pv i σ' H' → tu { D with nx := Pv (i + 1), ct := Pv (i + 1), bk := D.nx } (σ'.set j (some (.str ⟨#[c]⟩))) H') (hd : ∀ σ' H', Pv z.cps.size σ' H' → D.nx σ' H') : tFor (iStr tl) (gName j) tu D σ H :=
  h H (Ex.refl H) _ fun H1 e => ⟨z, rfl, for_it walk_str Pv (h0 H1 e) (fun _ _ _ _ _ => trivial) (fun i x σ' H' H2 _ p y => by
    obtain ⟨rfl, c, hc, rfl⟩ := y
    exact hs i c σ' _ hc p) hd⟩
theorem q_forStr {z : Str} {j : Nat} (h : Ev tl σ H (.str z)) (Pv : Nat → L2.St → Hp → Prop) (h0 : ∀ H1, Ex H H1 → Pv 0 σ H1)
    (hs : ∀ i c σ' H', z.cps[i]? = some c → Pv i σ' H' → tu { D with nx := Pv (i + 1), ct := Pv (i + 1), bk := tz D } (σ'.set j (some (.str ⟨#[c]⟩))) H') (hd : ∀ σ' H', Pv z.cps.size σ' H' → tz D σ' H') : tSeq (tFor (iStr tl) (gName j) tu) tz D σ H :=
  s_forStr (D := { D with nx := tz D }) h Pv h0 hs hd
theorem s_forEn {a : Addr} {j1 j2 : Nat} (h : Ev tl σ H (.ref a)) (hx : SqL K H a xs) (Pv : Nat → L2.St → Hp → Prop) (h0 : ∀ H1, Ex H H1 → Pv 0 σ H1) (hl : ∀ i σ' H', i ≤ xs.length → Pv i σ' H' → SqL K H' a xs)
    (hs : ∀ i x σ' H' H2, xs[i]? = some x → Pv i σ' H' → Ex H' H2 → tu { D with nx := Pv (i + 1), ct := Pv (i + 1), bk := D.nx } ((σ'.set j1 (some (.int (i : Int)))).set j2 (some x)) H2) (hd : ∀ σ' H', Pv xs.length σ' H' → D.nx σ' H') :
    tFor (iEnum K (tCons tl tNil)) (gTup K 2 (gCons (gName j1) (gCons (gName j2) gNil))) tu D σ H :=
  h H (Ex.refl H) _ fun H1 e => ⟨a, xs, rfl, ex_l e hx, for_it (walk_enum (xs := xs)) Pv (h0 H1 e) hl (fun i x σ' H' H2 _ p y => by
    obtain ⟨T, x1, y1, rfl, nT, rfl, ha, hb⟩ := y
    cases ha
    exact g_pair (st_of upd_same) (hs i y1 σ' H' _ hb p (Ex.new nT))) hd⟩
theorem q_forEn {a : Addr} {j1 j2 : Nat} (h : Ev tl σ H (.ref a)) (hx : SqL K H a xs) (Pv : Nat → L2.St → Hp → Prop) (h0 : ∀ H1, Ex H H1 → Pv 0 σ H1) (hl : ∀ i σ' H', i ≤ xs.length → Pv i σ' H' → SqL K H' a xs)
    (hs : ∀ i x σ' H' H2, xs[i]? = some x → Pv i σ' H' → Ex H' H2 → tu { D with nx := Pv (i + 1), ct := Pv (i + 1), bk := tz D } ((σ'.set j1 (some (.int (i : Int)))).set j2 (some x)) H2) (hd : ∀ σ' H', Pv xs.length σ' H' → tz D σ' H') :
    tSeq (tFor (iEnum K (tCons tl tNil)) (gTup K 2 (gCons (gName j1) (gCons (gName j2) gNil))) tu) tz D σ H := s_forEn (D := { D with nx := tz D }) h hx Pv h0 hl hs hd
theorem s_forEnN {j1 j2 : Nat} (h : EvL tl σ H xs) (Pv : Addr → Nat → L2.St → Hp → Prop) (h0 : ∀ p H1, H p = none → Ex H H1 → H1 p = some (.lst xs) → Pv p 0 σ H1) (hl : ∀ p i σ' H', i ≤ xs.length → Pv p i σ' H' → SqL K H' p xs)
    (hs : ∀ p i x σ' H' H2, xs[i]? = some x → Pv p i σ' H' → Ex H' H2 → tu { D with nx := Pv p (i + 1), ct := Pv p (i + 1), bk := D.nx } ((σ'.set j1 (some (.int (i : Int)))).set j2 (some x)) H2) (hd : ∀ p σ' H', Pv p xs.length σ' H' → D.nx σ' H') :
    tFor (iEnum K (tCons tl tNil)) (gTup K 2 (gCons (gName j1) (gCons (gName j2) gNil))) tu D σ H :=
  h H (Ex.refl H) _ fun p H1 np e h1 => ⟨p, xs, rfl, sq_of h1, for_it (walk_enum (xs := xs)) (Pv p) (h0 p H1 np e h1) (hl p) (fun i x σ' H' H2 _ q y => by
    obtain ⟨T, x1, y1, rfl, nT, rfl, ha, hb⟩ := y
    cases ha
    exact g_pair (st_of upd_same) (hs p i y1 σ' H' _ hb q (Ex.new nT))) (hd p)⟩
theorem q_forEnN {j1 j2 : Nat} (h : EvL tl σ H xs) (Pv : Addr → Nat → L2.St → Hp → Prop) (h0 : ∀ p H1, H p = none → Ex H H1 → H1 p = some (.lst xs) → Pv p 0 σ H1) (hl : ∀ p i σ' H', i ≤ xs.length → Pv p i σ' H' → SqL K H' p xs)
    (hs : ∀ p i x σ' H' H2, xs[i]? = some x → Pv p i σ' H' → Ex H' H2 → tu { D with nx := Pv p (i + 1), ct := Pv p (i + 1), bk := tz D } ((σ'.set j1 (some (.int (i : Int)))).set j2 (some x)) H2) (hd : ∀ p σ' H', Pv p xs.length σ' H' → tz D σ' H') :
    tSeq (tFor (iEnum K (tCons tl tNil)) (gTup K 2 (gCons (gName j1) (gCons (gName j2) gNil))) tu) tz D σ H := s_forEnN (D := { D with nx := tz D }) h Pv h0 hl hs hd
/-- over a list of pairs that stand -/
theorem s_forP {a : Addr} {as : List Addr} {j1 j2 : Nat} (h : Ev tl σ H (.ref a)) (hx : SqL K H a (as.map V.ref)) (Pv : Nat → L2.St → Hp → Prop) (h0 : ∀ H1, Ex H H1 → Pv 0 σ H1) (hl : ∀ i σ' H', i ≤ as.length → Pv i σ' H' → SqL K H' a (as.map V.ref))
    (hs : ∀ i b σ' H', as[i]? = some b → Pv i σ' H' → ∃ x y, SqT K H' b [x, y] ∧ tu { D with nx := Pv (i + 1), ct := Pv (i + 1), bk := D.nx } ((σ'.set j1 (some x)).set j2 (some y)) H') (hd : ∀ σ' H', Pv as.length σ' H' → D.nx σ' H') :
    tFor (iList K tl) (gTup K 2 (gCons (gName j1) (gCons (gName j2) gNil))) tu D σ H :=
  s_forL h hx Pv h0 (fun i σ' H' hi p => hl i σ' H' (by simpa using hi) p) (fun i x σ' H' hx' p => by
    rw [List.getElem?_map] at hx'
    cases hb : as[i]? with
    | none =>
      rw [hb] at hx'
      cases hx'
    | some b =>
      rw [hb] at hx'
      cases hx'
      obtain ⟨x1, y1, ht, q⟩ := hs i b σ' H' hb p
      exact g_pair ht q) (fun σ' H' p => hd σ' H' (by simpa using p))
end
end Hl
namespace Hl
open PySem PySem.Spec PyProof.Rows L2 Evl
theorem q_forP {K : PySem.W.Frag} {σ : L2.St} {H : Hp} {tl : TE} {D : Ends} {tu tz : TS} {a : Addr} {as : List Addr} {j1 j2 : Nat} (h : Ev tl σ H (.ref a)) (hx : SqL K H a (as.map V.ref)) (Pv : Nat → L2.St → Hp → Prop) (h0 : ∀ H1, Ex H H1 → Pv 0 σ H1) (hl : ∀ i σ' H', i ≤ as.length → Pv i σ' H' → SqL K H' a (as.map V.ref))
    (hs : ∀ i b σ' H', as[i]? = some b → Pv i σ' H' → ∃ x y, SqT K H' b [x, y] ∧ tu { D with nx := Pv (i + 1), ct := Pv (i + 1), bk := tz D } ((σ'.set j1 (some x)).set j2 (some y)) H') (hd : ∀ σ' H', Pv as.length σ' H' → tz D σ' H') :
    tSeq (tFor (iList K tl) (gTup K 2 (gCons (gName j1) (gCons (gName j2) gNil))) tu) tz D σ H := s_forP (D := { D with nx := tz D }) h hx Pv h0 hl hs hd
end Hl
/-! The tactic that evaluates readings: walk_at "ev" (an own line at the library's word). -/
local macro_rules | `(tactic| walk_at "side") => `(tactic| first | assumption | rfl | decide | omega | (constructor <;> omega) | (refine And.intro ?_ ?_ <;> first | decide | omega) | (refine Or.inl ⟨?_, ?_⟩ <;> omega) | (refine Or.inr ⟨?_, ?_⟩ <;> omega))
local macro_rules | `(tactic| walk_at "ev") => `(tactic| first
  | assumption
  | exact Evl.ev_c
  | exact Evl.ev_var rfl
  | exact Evl.ea_nil
  | (refine' Evl.ea_cons ?ha ?hb; (case ha => walk_at "ev"); (case hb => walk_at "ev"))
  | (refine' Evl.ev_notV ?ha; (case ha => walk_at "ev"))
  | (refine' Hl.ev_chain ?ha ?hb ?hc ?hd ?he; (case ha => walk_at "ev"); (case hb => walk_at "ev"); (case hc => walk_at "ev"); (case hd => walk_at "ev"); (case he => walk_at "ev"))
  | (refine' Evl.ev_op ?ha ?hb ?hc; (case ha => walk_at "ev"); (case hb => walk_at "ev"); (case hc => walk_at "ev"))
  | (refine' Evl.ev_un ?ha ?hb; (case ha => walk_at "ev"); (case hb => walk_at "ev"))
  | exact Evl.rv_I0
  | (refine' Evl.rv_I ?ha; (case ha => walk_at "side"))
  | exact Evl.ru_neg
  | exact Evl.rv_eq rfl
  | exact Evl.rv_ne rfl
  | exact Evl.rv_ixL (by assumption) (by assumption)
  | exact Evl.rv_ixT (by assumption) (by assumption)
  | (refine' Evl.et_test ?ha; (case ha => walk_at "ev"))
  | (refine' Evl.et_B ?ha; (case ha => walk_at "ev"))
  | (refine' Evl.et_not ?ha; (case ha => walk_at "ev")))
/-! The text by places; what every def's context says of exceptions. -/
namespace Hl
open PySem PySem.Spec PyProof.Rows L2 Evl
def topS (i : Nat) : Stmt := PySem.Challenge.pw_hillrows_k03_ways.main.body.getD i (.Pass ⟨0, 0, 0, 0⟩)
end Hl
/-! Plain mathematics: the number of ways, tables of them. No program here. -/
namespace Hl
/-- a ceiling stands below a height -/
def over (c : Option Nat) (h : Nat) : Bool := match c with | none => false | some m => decide (m < h)
/-- ways from a height, with so many signs left -/
def W (c : Option Nat) : Nat → Nat → Nat
  | 0, h => if h = 0 then 1 else 0
  | l + 1, h => if over c h = true then 0 else (if h = 0 then 0 else W c l (h - 1)) + W c l (h + 1)
theorem W_over {c : Option Nat} : ∀ {l h : Nat}, over c h = true → W c l h = 0
  | 0, h, e => by
    have : h ≠ 0 := by
      intro z; subst z
      cases c with
      | none => cases e
      | some m => simp [over] at e
    simp [W, this]
  | l + 1, h, e => by
    unfold W
    rw [if_pos e]
theorem W_far {c : Option Nat} : ∀ {l h : Nat}, l < h → W c l h = 0
  | 0, h, e => by
    have : h ≠ 0 := by omega
    simp [W, this]
  | l + 1, h, e => by
    unfold W
    split
    · rfl
    · have h1 : W c l (h - 1) = 0 := W_far (by omega)
      have h2 : W c l (h + 1) = 0 := W_far (by omega)
      rw [h1, h2]
      split <;> rfl
theorem W_step {c : Option Nat} {l h : Nat} (e : over c h = false) : W c (l + 1) h = (if h = 0 then 0 else W c l (h - 1)) + W c l (h + 1) := by
  conv => lhs; unfold W
  rw [if_neg (by rw [e]; decide)]
/-- for any int height -/
def WZ (c : Option Nat) (l : Nat) (h : Int) : Nat := if h < 0 then 0 else W c l h.toNat
theorem WZ_nat (c : Option Nat) (l h : Nat) : WZ c l (h : Int) = W c l h := by
  unfold WZ
  rw [if_neg (by omega)]
  simp
/-- the greatest height of the table's columns -/
def topOf (c : Option Nat) (L : Nat) : Nat := match c with | none => L | some m => min L m
/-- a row of the table -/
def rowT (c : Option Nat) (L l : Nat) : List Int := (List.range (topOf c L + 1)).map (fun h => (W c l h : Int)) ++ [0]
theorem rowT_len (c : Option Nat) (L l : Nat) : (rowT c L l).length = topOf c L + 2 := by simp [rowT]
theorem top_last {c : Option Nat} {L l : Nat} (h : l ≤ L) : W c l (topOf c L + 1) = 0 := by
  cases c with
  | none => exact W_far (by show l < L + 1; omega)
  | some m =>
    show W (some m) l (min L m + 1) = 0
    by_cases hm : m ≤ L
    · exact W_over (by simp [over]; omega)
    · exact W_far (by omega)
theorem rowT_get {c : Option Nat} {L l h : Nat} (hl : l ≤ L) (hh : h ≤ topOf c L + 1) : (rowT c L l)[h]? = some (W c l h : Int) := by
  unfold rowT
  by_cases e : h < topOf c L + 1
  · rw [List.getElem?_append_left (by simpa using e)]
    simp [e]
  · have e2 : h = topOf c L + 1 := by omega
    subst e2
    rw [List.getElem?_append_right (by simp)]
    simp [top_last hl]
theorem W_beyond {c : Option Nat} {L l h : Nat} (hl : l ≤ L) (hh : topOf c L + 1 < h) : W c l h = 0 := by
  cases c with
  | none => exact W_far (by have : topOf none L = L := rfl; omega)
  | some m =>
    have : topOf (some m) L = min L m := rfl
    by_cases hm : m ≤ L
    · exact W_over (by simp [over]; omega)
    · exact W_far (by omega)
theorem not_over_top {c : Option Nat} {L h : Nat} (hh : h ≤ topOf c L) : over c h = false := by
  cases c with
  | none => rfl
  | some m =>
    have : topOf (some m) L = min L m := rfl
    simp [over]; omega
/-- what a turn builds: the first g + 1 entries -/
def rowPart (c : Option Nat) (l g : Nat) : List Int := (List.range (g + 1)).map (fun h => (W c l h : Int))
theorem rowPart_zero (c : Option Nat) (l : Nat) : rowPart c (l + 1) 0 = [(W c l 1 : Int)] := by
  have e : over c 0 = false := by cases c with
    | none => rfl
    | some m => simp [over]
  simp [rowPart, List.range_succ, W_step e]
theorem rowPart_succ {c : Option Nat} {L l g : Nat} (hg : g + 1 ≤ topOf c L) : rowPart c (l + 1) (g + 1) = rowPart c (l + 1) g ++ [(W c l g : Int) + (W c l (g + 2) : Int)] := by
  have e : over c (g + 1) = false := not_over_top hg
  have h2 : W c (l + 1) (g + 1) = W c l g + W c l (g + 1 + 1) := by
    rw [W_step e, if_neg (by omega)]
    rfl
  unfold rowPart
  rw [List.range_succ, List.map_append]
  simp [h2]
theorem rowPart_done (c : Option Nat) (L l : Nat) : rowPart c l (topOf c L) ++ [0] = rowT c L l := rfl
theorem rowT_zero (c : Option Nat) (L : Nat) : rowT c L 0 = [1] ++ List.replicate (topOf c L + 1) 0 := by
  unfold rowT
  have : ∀ n, (List.range (n + 1)).map (fun h => ((W c 0 h : Nat) : Int)) = 1 :: List.replicate n 0 := by
    intro n
    induction n with
    | zero => rfl
    | succ n ih =>
      rw [List.range_succ, List.map_append, ih, List.replicate_succ' (n := n)]
      simp [W]
  rw [this, List.replicate_succ' (n := topOf c L)]
  simp
theorem W_free {m : Nat} : ∀ {l h : Nat}, h + l ≤ m → W (some m) l h = W none l h
  | 0, h, _ => rfl
  | l + 1, h, e => by
    have o : over (some m) h = false := by simp [over]; omega
    rw [W_step o, W_step (c := none) rfl, W_free (l := l) (h := h + 1) (by omega)]
    by_cases z : h = 0
    · rw [if_pos z, if_pos z]
    · rw [if_neg z, if_neg z, W_free (l := l) (h := h - 1) (by omega)]
end Hl
/-! errors, rows, counts: what the defs promise. -/
namespace Hl
open PySem PySem.Spec PyProof.Rows L2 Evl
abbrev s_is_number : Stmt := topS 5
abbrev N_is_number : List Str := ["thing", "least", "most"]
abbrev ps_is_number : List Str := ["thing", "least", "most"]
theorem sc_is_number : FnScope N_is_number ps_is_number (defScope s_is_number) := ⟨rfl, rfl, rfl, by decide +kernel, rfl, by decide +kernel, by decide +kernel⟩

abbrev s_need_ceiling : Stmt := topS 6
abbrev N_need_ceiling : List Str := ["ceiling"]
abbrev ps_need_ceiling : List Str := ["ceiling"]
theorem sc_need_ceiling : FnScope N_need_ceiling ps_need_ceiling (defScope s_need_ceiling) := ⟨rfl, rfl, rfl, by decide +kernel, rfl, by decide +kernel, by decide +kernel⟩

/-- a plain thing: no object -/
inductive Plain : V → Prop where
  | non : Plain .non
  | bl (b : Bool) : Plain (.bl b)
  | int (i : Int) : Plain (.int i)
  | str (z : Str) : Plain (.str z)
def isNum (x : V) (lo hi : Int) : Bool := match x with
  | .int i => decide (lo ≤ i) && decide (i ≤ hi)
  | _ => false
def spIsNumber : Sp := fun vs H Q _ => ∃ (x : V) (lo hi : Int), vs = [x, .int lo, .int hi] ∧ Plain x ∧ RetV (.bl (isNum x lo hi)) H Q
section
variable {P : Program} {w : World} {K : PySem.W.Frag} {mg : Str → Option Value} {base : Heap} {f : Addr} {fd : FuncData}
theorem ev_isi {σ : L2.St} {H : Hp} {ta tc : TE} {x : V} {n : String} {T : String} {b : Bool} (h1 : Ev ta σ H x) (h2 : Ev tc σ H (.ty n)) (ht : TyX K H x (.type T)) (hk : kitB T n = some b) (hm : ∀ H1, Ex H H1 → TyX K H1 x (.type T)) : Ev (tCB (rIsi K) (tCons ta (tCons tc tNil))) σ H (.bl b) :=
  ev_cb (ea_cons h1 (ea_cons h2 ea_nil)) fun H1 e Q q => ⟨x, .ty n, _, _, b, rfl, .ty n, hm H1 e, kit_ty hk, q H1 (Ex.refl H1)⟩
theorem ok_is_number (F : FnP K "is_number" s_is_number [] f fd) (B : Blt mg) : FnOk P w K mg base (L2.CX P w) 1 f fd ps_is_number spIsNumber := by
  refine F.ok sc_is_number (fun vs H Q E h => ?_) (fun cdv A outer s H vs Q E hr h => ?_)
  · obtain ⟨x, lo, hi, rfl, _⟩ := h
    rfl
  · obtain ⟨x, lo, hi, rfl, hp, q⟩ := h
    refine ⟨_, (pss_one (ps_ret (pe_and (pe_callB call_isi (by rfl) B.isinstance (by first | rfl | decide +kernel) (pa_cons (pv 0) (pa_cons (pe_bltn (v := .ty "int") (by rfl) B.int (by first | rfl | decide +kernel) rfl) pa_nil))) (pe_and (pe_not (pe_callB call_isi (by rfl) B.isinstance (by first | rfl | decide +kernel) (pa_cons (pv 0) (pa_cons (pe_bltn (v := .ty "bool") (by rfl) B.bool (by first | rfl | decide +kernel) rfl) pa_nil)))) (pe_one (pe_chain op_le op_le (pv 1) (pv 0) (pv 2))))))), ?_⟩
    refine s_ret (v := .bl (isNum x lo hi)) ?_ q
    cases hp with
    | non =>
      refine ev_andV (a := false) (b := false) (ev_isi (ev_var rfl) ev_c (.base .non) (by decide +kernel) fun _ _ => .base .non) (fun e => by cases e)
    | bl b =>
      refine ev_andV (a := true) (b := false) (ev_isi (ev_var rfl) ev_c (.base (.bl _)) (by decide +kernel) fun _ _ => .base (.bl _)) (fun _ => ?_)
      refine ev_andV (a := false) (b := false) (ev_notV (a := true) (ev_isi (ev_var rfl) ev_c (.base (.bl _)) (by decide +kernel) fun _ _ => .base (.bl _))) (fun e => by cases e)
    | str z =>
      refine ev_andV (a := false) (b := false) (ev_isi (ev_var rfl) ev_c (.base (.str _)) (by decide +kernel) fun _ _ => .base (.str _)) (fun e => by cases e)
    | int i =>
      refine ev_andV (a := true) (b := isNum (.int i) lo hi) (ev_isi (ev_var rfl) ev_c (.base (.int _)) (by decide +kernel) fun _ _ => .base (.int _)) (fun _ => ?_)
      refine ev_andV (a := true) (b := isNum (.int i) lo hi) (ev_notV (a := false) (ev_isi (ev_var rfl) ev_c (.base (.int _)) (by decide +kernel) fun _ _ => .base (.int _))) (fun _ => ?_)
      exact ev_chain (ev_var rfl) (ev_var rfl) rv_I0 (ev_var rfl) rv_I0
def ceilV : Option Nat → V
  | none => .non
  | some m => .int m
def okCeil (x : V) : Bool := match x with
  | .non => true
  | x => isNum x 0 200
theorem plain_ceil (c : Option Nat) : Plain (ceilV c) := by
  cases c with
  | none => exact .non
  | some m => exact .int _
theorem ok_ceil {c : Option Nat} (h : ∀ m, c = some m → m ≤ 200) : okCeil (ceilV c) = true := by
  cases c with
  | none => rfl
  | some m =>
    have := h m rfl
    simp [okCeil, ceilV, isNum]
    omega
theorem ceil_of {x : V} (h : okCeil x = true) : ∃ c : Option Nat, x = ceilV c ∧ ∀ m, c = some m → m ≤ 200 := by
  cases x with
  | non => exact ⟨none, rfl, fun _ e => by cases e⟩
  | int i =>
    have h2 : (decide (0 ≤ i) && decide (i ≤ 200)) = true := h
    simp at h2
    refine ⟨some i.toNat, ?_, fun m e => ?_⟩
    · show V.int i = V.int (i.toNat : Int)
      rw [Int.toNat_of_nonneg h2.1]
    · cases e
      omega
  | _ => cases h
def spNeedCeiling (C : Addr) : Sp := fun vs H Q E => ∃ x : V, vs = [x] ∧ Plain x ∧ (okCeil x = true → RetV .non H Q) ∧ (okCeil x = false → rx C H E)
theorem plain_non {x : V} (h : Plain x) : decide (x = V.non) = true ↔ x = .non := by simp
theorem rv_isN {x : V} {H : Hp} : RV (fun x y H Q => y = V.non ∧ Q (.bl (decide (x = V.non))) H) x .non H (.bl (decide (x = V.non))) := fun H1 _ Q q => ⟨rfl, q H1 (Ex.refl H1)⟩
theorem rv_notN {x : V} {H : Hp} : RV (fun x y H Q => y = V.non ∧ Q (.bl (!decide (x = V.non))) H) x .non H (.bl (!decide (x = V.non))) := fun H1 _ Q q => ⟨rfl, q H1 (Ex.refl H1)⟩
/-- is_number's call -/
theorem ev_isNumber {σ : L2.St} {H : Hp} {ta tb tc : TE} {x : V} {lo hi : Int} {E : XK} (hp : Plain x) (h1 : Ev ta σ H x) (h2 : Ev tb σ H (.int lo)) (h3 : Ev tc σ H (.int hi)) : Ev (tCall spIsNumber [] E (tCons ta (tCons tb (tCons tc tNil)))) σ H (.bl (isNum x lo hi)) :=
  ev_call (ea_cons h1 (ea_cons h2 (ea_cons h3 ea_nil))) fun H1 _ Q q _ => ⟨x, lo, hi, rfl, hp, q⟩
theorem ok_need_ceiling {C : Addr} (F : FnP K "need_ceiling" s_need_ceiling [] f fd) (f_is_number : Cal P w K mg base 1 "is_number" spIsNumber []) (c_MOST : Cst mg "MOST" (.int 200)) (x_NoCount : Exc K mg "NoCount" C) :
    FnOk P w K mg base (L2.CX P w) 2 f fd ps_need_ceiling (spNeedCeiling C) := by
  refine F.ok sc_need_ceiling (fun vs H Q E h => ?_) (fun cdv A outer s H vs Q E hr h => ?_)
  · obtain ⟨x, rfl, _⟩ := h
    rfl
  · obtain ⟨x, rfl, hp, q, qe⟩ := h
    refine ⟨_, (pss_one (ps_if (PW.pt (pw_and (pt_cmpR op_notN (pv 0) pe_non (nomark _)) (pw_and1 (pt_not (pt_val (pe_cal f_is_number hr (by decide) (by rfl) hxOf (pa_cons (pv 0) (pa_cons pe_int (pa_cons (pe_cst (by rfl) c_MOST) pa_nil)))))))))
      (pss_one (ps_raise rfl tkOf x_NoCount.mk'))
      pss_nil)), ?_⟩
    refine s_when (b := !okCeil x) ?_ (fun hb H1 e1 => ?_) (fun hb H1 e1 => q (by simpa using hb) H1 e1)
    · by_cases hx : x = .non
      · subst hx
        exact et_and (a := false) (b := false) (et_test (ev_op (ev_var rfl) ev_c rv_notN)) (fun e => by cases e)
      · have e1 : okCeil x = isNum x 0 200 := by
          cases hp with
          | non => exact absurd rfl hx
          | _ => rfl
        refine et_is (et_and (a := !decide (x = V.non)) (b := !isNum x 0 200) (et_test (ev_op (ev_var rfl) ev_c rv_notN)) (fun _ => et_not (et_B (ev_isNumber hp (ev_var rfl) ev_c ev_c)))) ?_
        rw [e1, decide_eq_false hx]
        rfl
    · exact qe (by simpa using hb) H1 e1
abbrev s_table_of : Stmt := topS 8
abbrev N_table_of : List Str := ["left", "ceiling", "top", "found", "turn", "before", "row", "height"]
abbrev ps_table_of : List Str := ["left", "ceiling"]
theorem sc_table_of : FnScope N_table_of ps_table_of (defScope s_table_of) := ⟨rfl, rfl, rfl, by decide +kernel, rfl, by decide +kernel, by decide +kernel⟩

abbrev s_from_table : Stmt := topS 9
abbrev N_from_table : List Str := ["table", "height", "left"]
abbrev ps_from_table : List Str := ["table", "height", "left"]
theorem sc_from_table : FnScope N_from_table ps_from_table (defScope s_from_table) := ⟨rfl, rfl, rfl, by decide +kernel, rfl, by decide +kernel, by decide +kernel⟩

abbrev s_counted : Stmt := topS 10
abbrev N_counted : List Str := ["n", "ceiling"]
abbrev ps_counted : List Str := ["n", "ceiling"]
theorem sc_counted : FnScope N_counted ps_counted (defScope s_counted) := ⟨rfl, rfl, rfl, by decide +kernel, rfl, by decide +kernel, by decide +kernel⟩

/-- a table of the ways stands at v -/
def TabAt (K : PySem.W.Frag) (c : Option Nat) (L : Nat) (v : V) (H : Hp) : Prop := ∃ (p : Addr) (as : List Addr), v = .ref p ∧ SqL K H p (as.map V.ref) ∧ as.length = L + 1 ∧ ∀ (l : Nat) (a : Addr), as[l]? = some a → SqL K H a ((rowT c L l).map V.int)
theorem TabAt.mono {c : Option Nat} {L : Nat} {v : V} {H H' : Hp} (e : Ex H H') (h : TabAt K c L v H) : TabAt K c L v H' := by
  obtain ⟨p, as, rfl, hS, hl, hr⟩ := h
  exact ⟨p, as, rfl, ex_l e hS, hl, fun l a ha => ex_l e (hr l a ha)⟩
def spTableOf (K : PySem.W.Frag) : Sp := fun vs H Q _ => ∃ (L : Nat) (c : Option Nat), vs = [.int L, ceilV c] ∧ L ≤ 1000 ∧ rg (TabAt K c L) H Q
def spFromTable (K : PySem.W.Frag) : Sp := fun vs H Q _ => ∃ (v : V) (c : Option Nat) (L l : Nat) (h : Int), vs = [v, .int h, .int l] ∧ TabAt K c L v H ∧ l ≤ L ∧ RetV (.int (WZ c l h)) H Q
theorem ok_table_of (F : FnP K "table_of" s_table_of [] f fd) (B : Blt mg) : FnOk P w K mg base (L2.CX P w) 1 f fd ps_table_of (spTableOf K) := by
  refine F.ok sc_table_of (fun vs H Q E h => ?_) (fun cdv A outer s H vs Q E hr h => ?_)
  · obtain ⟨L, c, rfl, _⟩ := h
    rfl
  · obtain ⟨L, c, rfl, hL, q⟩ := h
    refine ⟨_, (pss_cons (ps_set (i := 2) sc_table_of.nd rfl (by first | exact Or.inl rfl | exact Or.inr rfl) (pv 0))
    (Evl.pss_cut (ps_if (pt_cmpR op_notN (pv 1) pe_non (nomark _))
      (pss_one (ps_set (i := 2) sc_table_of.nd rfl (by first | exact Or.inl rfl | exact Or.inr rfl) (pe_callB (call_min2 rfl) (by rfl) B.min (by first | rfl | decide +kernel) (pa_cons (pv 0) (pa_cons (pv 1) pa_nil)))))
      pss_nil)
    (pss_cons (ps_set (i := 3) sc_table_of.nd rfl (by first | exact Or.inl rfl | exact Or.inr rfl) (pe_lst (pa_cons (pe_op op_cat (pe_lst (pa_cons pe_int pa_nil)) (pe_op op_rep (pe_lst (pa_cons pe_int pa_nil)) (pe_op op_add (pv 2) pe_int))) pa_nil)))
    (pss_cons (ps_for hpOf rfl (pi_range1 (by rfl) B.range (pa_cons (pv 0) pa_nil)) (pg_name (i := 4) sc_table_of.nd rfl (by first | exact Or.inl rfl | exact Or.inr rfl))
      (pss_cons (ps_set (i := 5) sc_table_of.nd rfl (by first | exact Or.inl rfl | exact Or.inr rfl) (pe_ix ix_list (pv 3) (pe_un un_neg pe_int) (fun _ _ => rfl)))
      (pss_cons (ps_set (i := 6) sc_table_of.nd rfl (by first | exact Or.inl rfl | exact Or.inr rfl) (pe_lst (pa_cons (pe_ix ix_list (pv 5) pe_int (fun _ _ => rfl)) pa_nil)))
      (pss_cons (ps_for hpOf rfl (pi_range2 (by rfl) B.range (pa_cons pe_int (pa_cons (pe_op op_add (pv 2) pe_int) pa_nil))) (pg_name (i := 7) sc_table_of.nd rfl (by first | exact Or.inl rfl | exact Or.inr rfl))
        (pss_one (ps_expr (pe_bm PySem.F.plainAttrs_list PySem.F.slot_list_append PySem.F.type_list_append mt_append (pv 6) (pa_cons (pe_op op_add (pe_ix ix_list (pv 5) (pe_op op_sub (pv 7) pe_int) (fun _ _ => rfl)) (pe_ix ix_list (pv 5) (pe_op op_add (pv 7) pe_int) (fun _ _ => rfl))) pa_nil)))))
      (pss_one (ps_expr (pe_bm PySem.F.plainAttrs_list PySem.F.slot_list_append PySem.F.type_list_append mt_append (pv 3) (pa_cons (pe_op op_cat (pv 6) (pe_lst (pa_cons pe_int pa_nil))) pa_nil))))))))
    (pss_one (ps_ret (pv 3))))))), ?_⟩
    refine q_asg (v := .int (L : Int)) (ev_var rfl) fun H1 e1 => ?_
    have hT : topOf c L ≤ L := by cases c with
      | none => exact Nat.le_refl _
      | some m => exact Nat.min_le_left _ _
    -- top
    refine q_cut (M := fun σ H' => σ = [some (.int L), some (ceilV c), some (.int (topOf c L : Int)), none, none, none, none, none] ∧ Ex H H') (s_ifAsg (b := !decide (ceilV c = V.non)) (v := .int (topOf c L : Int)) (et_test (ev_op (ev_var rfl) ev_c rv_notN)) (fun hb => ?_) (fun hb => ?_) fun H2 e2 => ⟨rfl, e1.trans e2⟩) fun σ H2 ⟨hσ, e02⟩ => ?_
    · cases c with
      | none => cases hb
      | some m =>
        refine ev_is (ev_cb (ea_cons (ev_var rfl) (ea_cons (ev_var rfl) ea_nil)) (z := .int (if (m : Int) < (L : Int) then (m : Int) else (L : Int))) fun H1 _ Q q => ⟨_, _, rfl, q H1 (Ex.refl H1)⟩) ?_
        show V.int _ = V.int ((min L m : Nat) : Int)
        congr 1
        split <;> omega
    · cases c with
      | none => rfl
      | some m => cases hb
    subst hσ
    -- found
    refine q_asgLL (xs := (rowT c L 0).map V.int) (el_is (el_cat (el_lst (ea_cons ev_c ea_nil) (by decide)) (el_rep (el_lst (ea_cons ev_c ea_nil) (by decide)) (ev_op (ev_var rfl) ev_c rv_I0) (by omega) (by simp; omega)) (by simp; omega)) ?_) fun a p H3 na np nap e3 ha hp => ?_
    · rw [rowT_zero]
      simp only [List.map_append, List.map_replicate, List.map_cons, List.map_nil]
      have : ((topOf c L : Int) + 1).toNat = topOf c L + 1 := by omega
      rw [this]
      simp
    have e03 := e02.trans e3
    refine q_forR1 (n := (L : Int)) (ea_cons (ev_var rfl) ea_nil) (by omega) (fun i σ H' => ∃ (as : List Addr) (s4 s5 s6 s7 : Option V), σ = [some (.int L), some (ceilV c), some (.int (topOf c L : Int)), some (.ref p), s4, s5, s6, s7] ∧ Ex H H' ∧ H' p = some (.lst (as.map V.ref)) ∧ as.length = i + 1 ∧
      ∀ (l : Nat) (b : Addr), as[l]? = some b → b ≠ p ∧ H' b = some (.lst ((rowT c L l).map V.int))) (fun H4 e4 => ?_) (fun i σ H' hi hP => ?_) (fun σ H' hP => ?_)
    · refine ⟨[a], none, none, none, none, rfl, e03.trans e4, e4 p _ hp, rfl, fun l b hb => ?_⟩
      cases l with
      | zero =>
        cases hb
        exact ⟨nap, e4 a _ ha⟩
      | succ l => simp at hb
    · obtain ⟨as, s4, s5, s6, s7, rfl, eE, hp', hl, hr'⟩ := hP
      have hi' : i < L := by omega
      obtain ⟨b, hb⟩ : ∃ b, as[i]? = some b := ⟨as[i]'(by omega), by rw [List.getElem?_eq_getElem]⟩
      obtain ⟨nbp, hb2⟩ := hr' i b hb
      -- before = found[-1]
      refine q_asg (v := .ref b) (ev_op (ev_var rfl) (ev_un ev_c ru_neg) (rv_ixL (sq_of hp') (neg_one_at (by simpa using hl) (by rw [List.getElem?_map, hb]; rfl)))) fun H5 e5 => ?_
      have hp5 := e5 p _ hp'
      have hb5 := e5 b _ hb2
      -- row = [before[1]]
      refine q_asgL (xs := (rowPart c (i + 1) 0).map V.int) (el_is (el_lst (ea_cons (ev_op (ev_var rfl) ev_c (rv_ixL (sq_of hb5) (at_int (i := 1) rfl (rowT_get (by omega) (by omega))))) ea_nil) (by simp)) (by rw [rowPart_zero]; rfl)) fun r H6 nr e6 hr6 => ?_
      have nrp : r ≠ p := (ne_of_none hp5 nr).symm
      have nrb : r ≠ b := (ne_of_none hb5 nr).symm
      have hb6 := e6 b _ hb5
      refine q_forR2 (lo := 1) (n := (topOf c L : Int) + 1) (ea_cons ev_c (ea_cons (ev_op (ev_var rfl) ev_c rv_I0) ea_nil)) (by omega) (fun g σ H' => ∃ (s7 : Option V), σ = [some (.int L), some (ceilV c), some (.int (topOf c L : Int)), some (.ref p), some (.int (i : Int)), some (.ref b), some (.ref r), s7] ∧ Ex H5 H' ∧ H' r = some (.lst ((rowPart c (i + 1) g).map V.int)))
        (fun H7 e7 => ⟨_, rfl, e6.trans e7, e7 r _ hr6⟩) (fun g σ H7 hg hP => ?_) (fun σ H7 hP => ?_)
      · obtain ⟨s7, rfl, e7, hr7⟩ := hP
        have hb7 : SqL K H7 b ((rowT c L i).map V.int) := sq_of (e7 b _ hb5)
        refine s_app hr7 (ev_var rfl) (v := .int ((W c i g : Int) + (W c i (g + 2) : Int))) (ev_op (ev_op (ev_var rfl) (ev_op (ev_var rfl) ev_c rv_I0) (rv_ixL hb7 (at_int (i := g) (by omega) (rowT_get (by omega) (by omega)))))
          (ev_op (ev_var rfl) (ev_op (ev_var rfl) ev_c rv_I0) (rv_ixL hb7 (at_int (i := g + 2) (by omega) (rowT_get (by omega) (by omega))))) rv_I0) (by simp [rowPart]; omega) fun H8 e8 => ?_
        refine ⟨_, rfl, (e7.trans e8).mut nr, ?_⟩
        rw [upd_same, rowPart_succ (L := L) (by omega), List.map_append]
        rfl
      · obtain ⟨s7, rfl, e7, hr7⟩ := hP
        have hg : ((topOf c L : Int) + 1 - 1).toNat = topOf c L := by omega
        rw [hg] at hr7
        have hp7 := e7 p _ hp5
        refine s_appL hp7 (ev_var rfl) (ys := (rowT c L (i + 1)).map V.int) (el_is (el_catV (ev_var rfl) hr7 (el_lst (ea_cons ev_c ea_nil) (by decide)) (by simp [rowPart]; omega)) (by rw [← rowPart_done, List.map_append]; rfl)) (by simp; omega) fun qa H8 nq e8 hq => ?_
        have nqp : qa ≠ p := (ne_of_none hp7 nq).symm
        have eE5 := (eE.trans e5).trans (e7.trans e8)
        have pn : H p = none := fresh_back e02 np
        refine ⟨as ++ [qa], _, _, _, _, rfl, eE5.mut pn, ?_, by simp [hl], fun l z hz => ?_⟩
        · rw [upd_same, List.map_append]
          rfl
        · by_cases hlt : l < as.length
          · rw [List.getElem?_append_left hlt] at hz
            obtain ⟨n1, h1⟩ := hr' l z hz
            refine ⟨n1, ?_⟩
            rw [upd_ne n1]
            exact e8 z _ (e7 z _ (e5 z _ h1))
          · have hle : l = i + 1 := by
              have h2 := (List.getElem?_eq_some_iff.mp hz).1
              simp at h2
              omega
            subst hle
            rw [List.getElem?_append_right (by omega)] at hz
            simp [hl] at hz
            subst hz
            refine ⟨nqp, ?_⟩
            rw [upd_ne nqp]
            exact hq
    · obtain ⟨as, s4, s5, s6, s7, rfl, eE, hp', hl, hr'⟩ := hP
      refine s_ret (ev_var rfl) fun H9 e9 => q _ H9 (eE.trans e9) ⟨p, as, rfl, sq_of (e9 p _ hp'), by simpa using hl, fun l b hb => sq_of (e9 b _ (hr' l b hb).2)⟩
theorem lt_len_table {K : PySem.W.Frag} {c : Option Nat} {L l : Nat} {h : Int} (hl : l ≤ L) (h0 : 0 ≤ h) (hh : ((rowT c L l).length : Int) ≤ h) : WZ c l h = 0 := by
  obtain ⟨n, rfl⟩ := Int.eq_ofNat_of_zero_le h0
  rw [WZ_nat]
  rw [rowT_len] at hh
  exact W_beyond hl (by omega)
theorem ok_from_table (F : FnP K "from_table" s_from_table [] f fd) (B : Blt mg) : FnOk P w K mg base (L2.CX P w) 1 f fd ps_from_table (spFromTable K) := by
  refine F.ok sc_from_table (fun vs H Q E h => ?_) (fun cdv A outer s H vs Q E hr h => ?_)
  · obtain ⟨v, c, L, l, h, rfl, _⟩ := h
    rfl
  · obtain ⟨v, c, L, l, h, rfl, ⟨p, as, rfl, hS, hl, hrow⟩, hlL, q⟩ := h
    refine ⟨_, (pss_cons (ps_if (PW.pt (pw_or (pt_cmpR op_lt (pv 1) pe_int (nomark _)) (pw_or1 (pt_cmpR op_ge (pv 1) (pe_callB call_len_seq (by rfl) B.len (by first | rfl | decide +kernel) (pa_cons (pe_ix ix_list (pv 0) (pv 2) (fun _ _ => rfl)) pa_nil)) (nomark _)))))
      (pss_one (ps_ret pe_int))
      pss_nil)
    (pss_one (ps_ret (pe_ix ix_list (pe_ix ix_list (pv 0) (pv 2) (fun _ _ => rfl)) (pv 1) (fun _ _ => rfl))))), ?_⟩
    obtain ⟨a, ha⟩ : ∃ a, as[l]? = some a := ⟨as[l]'(by omega), by rw [List.getElem?_eq_getElem]⟩
    have hA := hrow l a ha
    have evA : ∀ {H1 : Hp}, Ex H H1 → Ev (tOp (rIxL K) (tVar 0) (tVar 2)) [some (.ref p), some (.int h), some (.int l)] H1 (.ref a) := fun e => ev_op (ev_var rfl) (ev_var rfl) (rv_ixL (ex_l e hS) (at_ref rfl ha))
    refine q_when (b := decide (h < 0) || decide (((rowT c L l).map V.int).length ≤ h)) (et_or (et_test (ev_op (ev_var rfl) ev_c rv_I0)) (fun _ => et_test (ev_op (ev_var rfl) (ev_len (evA (Ex.refl H)) hA) rv_I0))) (fun hb H1 e1 => ?_) (fun hb H1 e1 => ?_)
    · refine s_ret (ev_c (v := .int 0)) fun H2 e2 => ?_
      have : WZ c l h = 0 := by
        simp only [Bool.or_eq_true, decide_eq_true_eq, List.length_map] at hb
        by_cases h0 : h < 0
        · unfold WZ
          rw [if_pos h0]
        · rcases hb with hb | hb
          · exact absurd hb h0
          · exact lt_len_table (K := K) hlL (by omega) hb
      have q2 := q H2 (e1.trans e2)
      rw [this] at q2
      exact q2
    · simp only [Bool.or_eq_false_iff, decide_eq_false_iff_not, List.length_map] at hb
      obtain ⟨n, rfl⟩ := Int.eq_ofNat_of_zero_le (show 0 ≤ h by omega)
      have hn : n < topOf c L + 2 := by
        have := hb.2
        rw [rowT_len] at this
        omega
      refine s_ret (ev_op (evA e1) (ev_var rfl) (rv_ixL (ex_l e1 hA) (at_int rfl (rowT_get hlL (by omega))))) fun H2 e2 => ?_
      have q2 := q H2 (e1.trans e2)
      rw [WZ_nat] at q2
      exact q2
/-- counted: C the class of its refusal -/
def spCounted (C : Addr) : Sp := fun vs H Q E => ∃ x y : V, vs = [x, y] ∧ Plain x ∧ Plain y ∧ (∀ (n : Nat) (c : Option Nat), x = .int n → n ≤ 200 → y = ceilV c → (∀ m, c = some m → m ≤ 200) → RetV (.int (W c (2 * n) 0)) H Q) ∧
  (isNum x 0 200 = false ∨ okCeil y = false → rx C H E)
theorem num_of {x : V} {lo hi : Int} (h : isNum x lo hi = true) : ∃ i : Int, x = .int i ∧ lo ≤ i ∧ i ≤ hi := by
  cases x with
  | int i =>
    have h2 : (decide (lo ≤ i) && decide (i ≤ hi)) = true := h
    simp at h2
    exact ⟨i, rfl, h2⟩
  | _ => cases h
theorem nat_of {x : V} {hi : Int} (h : isNum x 0 hi = true) : ∃ n : Nat, x = .int n ∧ (n : Int) ≤ hi := by
  obtain ⟨i, rfl, h0, h1⟩ := num_of h
  obtain ⟨n, rfl⟩ := Int.eq_ofNat_of_zero_le h0
  exact ⟨n, rfl, h1⟩
theorem need_ok {σ : L2.St} {H : Hp} {ta : TE} {y : V} {C : Addr} {E : XK} (hp : Plain y) (h1 : Ev ta σ H y) (hy : okCeil y = true) : Ev (tCall (spNeedCeiling C) [] E (tCons ta tNil)) σ H .non :=
  ev_call (ea_cons h1 ea_nil) fun H1 _ Q q E => ⟨y, rfl, hp, fun _ => q, fun z => absurd hy (by rw [z]; decide)⟩
/-- the table, then a place of it -/
theorem ev_way {σ : L2.St} {H : Hp} {tl tc th tm : TE} {L l : Nat} {c : Option Nat} {h : Int} {E E' : XK} (hL : L ≤ 1000) (hl : l ≤ L) (h1 : Ev tl σ H (.int L)) (h2 : Ev tc σ H (ceilV c)) (h3 : Ev th σ H (.int h)) (h4 : Ev tm σ H (.int l)) :
    Ev (tCall (spFromTable K) [] E (tCons (tCall (spTableOf K) [] E' (tCons tl (tCons tc tNil))) (tCons th (tCons tm tNil)))) σ H (.int (WZ c l h)) :=
  ev_call1 (P := TabAt K c L) (eg_call (ea_cons h1 (ea_cons h2 ea_nil)) fun H1 _ Q q _ => ⟨L, c, rfl, hL, q⟩) (ea_cons h3 (ea_cons h4 ea_nil)) fun v H1 e1 hv H2 e2 Q q _ => ⟨v, c, L, l, h, rfl, hv.mono e2, hl, q⟩
theorem ok_counted {C : Addr} (F : FnP K "counted" s_counted [.non] f fd) (f_is_number : Cal P w K mg base 1 "is_number" spIsNumber []) (f_need_ceiling : Cal P w K mg base 2 "need_ceiling" (spNeedCeiling C) [])
    (f_table_of : Cal P w K mg base 1 "table_of" (spTableOf K) []) (f_from_table : Cal P w K mg base 1 "from_table" (spFromTable K) []) (c_MOST : Cst mg "MOST" (.int 200)) (x_NoCount : Exc K mg "NoCount" C) :
    FnOk P w K mg base (L2.CX P w) 3 f fd ps_counted (spCounted C) := by
  refine F.ok sc_counted (fun vs H Q E h => ?_) (fun cdv A outer s H vs Q E hr h => ?_)
  · obtain ⟨x, y, rfl, _⟩ := h
    rfl
  · obtain ⟨x, y, rfl, hx, hy, q, qe⟩ := h
    refine ⟨_, (pss_cons (ps_if (pt_not (pt_val (pe_cal f_is_number hr (by decide) (by rfl) hxOf (pa_cons (pv 0) (pa_cons pe_int (pa_cons (pe_cst (by rfl) c_MOST) pa_nil))))))
      (pss_one (ps_raise rfl tkOf x_NoCount.mk'))
      pss_nil)
    (pss_cons (ps_expr (pe_cal f_need_ceiling hr (by decide) (by rfl) hxOf (pa_cons (pv 1) pa_nil)))
    (pss_one (ps_ret (pe_cal f_from_table hr (by decide) (by rfl) hxOf (pa_cons (pe_cal f_table_of hr (by decide) (by rfl) hxOf (pa_cons (pe_op op_mul pe_int (pv 0)) (pa_cons (pv 1) pa_nil))) (pa_cons pe_int (pa_cons (pe_op op_mul pe_int (pv 0)) pa_nil)))))))), ?_⟩
    refine q_when (et_not (et_B (ev_isNumber hx (ev_var rfl) ev_c ev_c))) (fun hb H1 e1 => qe (.inl (by simpa using hb)) H1 e1) (fun hb H1 e1 => ?_)
    by_cases hc : okCeil y = true
    · obtain ⟨c, rfl, hc2⟩ := ceil_of hc
      obtain ⟨n, rfl, hn⟩ := nat_of (show isNum x 0 200 = true by simpa using hb)
      refine q_drop (need_ok hy (ev_var rfl) hc) fun H2 e2 => ?_
      refine s_ret (ev_is (ev_way (K := K) (L := 2 * n) (l := 2 * n) (c := c) (h := 0) (by omega) (Nat.le_refl _) (ev_op ev_c (ev_var rfl) (rv_I (C := CMul) (.inl ⟨by decide, by decide⟩))) (ev_var rfl) ev_c (ev_op ev_c (ev_var rfl) (rv_I (C := CMul) (.inl ⟨by decide, by decide⟩)))) (by rw [show (0 : Int) = ((0 : Nat) : Int) from rfl, WZ_nat])) fun H3 e3 => q n c rfl (by omega) rfl hc2 H3 ((e1.trans e2).trans e3)
    · refine ⟨_, rfl, _, rfl, hy, fun z => absurd z hc, fun z H2 e2 => qe (.inr z) H2 (e1.trans e2)⟩
theorem ev_counted {σ : L2.St} {H : Hp} {ta tb : TE} {n : Nat} {c : Option Nat} {C : Addr} {E : XK} (hn : n ≤ 200) (hc : ∀ m, c = some m → m ≤ 200) (h1 : Ev ta σ H (.int (n : Int))) (h2 : Ev tb σ H (ceilV c)) : Ev (tCall (spCounted C) [] E (tCons ta (tCons tb tNil))) σ H (.int (W c (2 * n) 0)) :=
  ev_call (ea_cons h1 (ea_cons h2 ea_nil)) fun H1 _ Q q E => ⟨_, _, rfl, .int _, plain_ceil c, fun n' c' e1 _ e2 _ => by
    have en : n = n' := by
      injection e1 with e1
      omega
    have ec : c = c' := by
      cases c <;> cases c' <;> first | rfl | (cases e2; done) | (injection e2 with e2; congr 1; omega)
    rw [← en, ← ec]
    exact q, fun z => by
    exfalso
    rcases z with z | z
    · have : isNum (.int (n : Int)) 0 200 = true := by simp [isNum]; omega
      rw [this] at z
      cases z
    · rw [ok_ceil hc] at z
      cases z⟩
theorem ev_counted_d {σ : L2.St} {H : Hp} {ta : TE} {n : Nat} {C : Addr} {E : XK} (hn : n ≤ 200) (h1 : Ev ta σ H (.int (n : Int))) : Ev (tCall (spCounted C) [.non] E (tCons ta tNil)) σ H (.int (W none (2 * n) 0)) :=
  fun H1 e Q q => h1 H1 e _ fun H2 e2 => ev_counted (E := E) (c := none) (tb := tC .non) hn (fun _ z => by cases z) (ta := tC (.int (n : Int))) (σ := σ) (H := H2) ev_c ev_c H2 (Ex.refl _) Q (fun H3 e3 => q H3 (e2.trans e3))
end
end Hl
/-! ways: what the def promises. -/
namespace Hl
open PySem PySem.Spec PyProof.Rows L2 Evl
abbrev s_ways : Stmt := topS 11
abbrev N_ways : List Str := ["height", "left", "ceiling"]
abbrev ps_ways : List Str := ["height", "left", "ceiling"]
theorem sc_ways : FnScope N_ways ps_ways (defScope s_ways) := ⟨rfl, rfl, rfl, by decide +kernel, rfl, by decide +kernel, by decide +kernel⟩

def spWays (C : Addr) : Sp := fun vs H Q E => ∃ x y z : V, vs = [x, y, z] ∧ Plain x ∧ Plain y ∧ Plain z ∧ (∀ (h l : Nat) (c : Option Nat), x = .int h → h ≤ 200 → y = .int l → l ≤ 400 → z = ceilV c → (∀ m, c = some m → m ≤ 200) → RetV (.int (W c l h)) H Q) ∧
  (isNum x 0 200 = false ∨ isNum y 0 400 = false ∨ okCeil z = false → rx C H E)
section
variable {P : Program} {w : World} {K : PySem.W.Frag} {mg : Str → Option Value} {base : Heap} {f : Addr} {fd : FuncData}
theorem ceilV_inj {c d : Option Nat} (h : ceilV c = ceilV d) : c = d := by
  cases c <;> cases d <;> first | rfl | (cases h; done) | (injection h with h; congr 1; omega)
theorem intV_inj {m n : Nat} (h : V.int (m : Int) = V.int (n : Int)) : m = n := by
  injection h with h
  omega
theorem num_nat {n hi : Nat} (h : n ≤ hi) : isNum (.int (n : Int)) 0 (hi : Int) = true := by simp [isNum]; omega
theorem ok_ways {C : Addr} (F : FnP K "ways" s_ways [.non] f fd) (f_is_number : Cal P w K mg base 1 "is_number" spIsNumber []) (f_need_ceiling : Cal P w K mg base 2 "need_ceiling" (spNeedCeiling C) [])
    (f_table_of : Cal P w K mg base 1 "table_of" (spTableOf K) []) (f_from_table : Cal P w K mg base 1 "from_table" (spFromTable K) []) (c_MOST : Cst mg "MOST" (.int 200)) (x_NoCount : Exc K mg "NoCount" C) :
    FnOk P w K mg base (L2.CX P w) 3 f fd ps_ways (spWays C) := by
  refine F.ok sc_ways (fun vs H Q E h => ?_) (fun cdv A outer s H vs Q E hr h => ?_)
  · obtain ⟨x, y, z, rfl, _⟩ := h
    rfl
  · obtain ⟨x, y, z, rfl, hx, hy, hz, q, qe⟩ := h
    refine ⟨_, (pss_cons (ps_if (PW.pt (pw_or (pt_not (pt_val (pe_cal f_is_number hr (by decide) (by rfl) hxOf (pa_cons (pv 0) (pa_cons pe_int (pa_cons (pe_cst (by rfl) c_MOST) pa_nil)))))) (pw_or1 (pt_not (pt_val (pe_cal f_is_number hr (by decide) (by rfl) hxOf (pa_cons (pv 1) (pa_cons pe_int (pa_cons (pe_op op_mul pe_int (pe_cst (by rfl) c_MOST)) pa_nil)))))))))
      (pss_one (ps_raise rfl tkOf x_NoCount.mk'))
      pss_nil)
    (pss_cons (ps_expr (pe_cal f_need_ceiling hr (by decide) (by rfl) hxOf (pa_cons (pv 2) pa_nil)))
    (pss_one (ps_ret (pe_cal f_from_table hr (by decide) (by rfl) hxOf (pa_cons (pe_cal f_table_of hr (by decide) (by rfl) hxOf (pa_cons (pv 1) (pa_cons (pv 2) pa_nil))) (pa_cons (pv 0) (pa_cons (pv 1) pa_nil)))))))), ?_⟩
    refine q_when (b := !isNum x 0 200 || !isNum y 0 400) (et_or (et_not (et_B (ev_isNumber hx (ev_var rfl) ev_c ev_c))) (fun _ => et_not (et_B (ev_isNumber hy (ev_var rfl) ev_c (ev_op ev_c ev_c (rv_I (C := CMul) (.inl ⟨by decide, by decide⟩))))))) (fun hb H1 e1 => qe ?_ H1 e1) (fun hb H1 e1 => ?_)
    · simp only [Bool.or_eq_true, Bool.not_eq_true'] at hb
      rcases hb with hb | hb
      · exact .inl hb
      · exact .inr (.inl hb)
    · simp only [Bool.or_eq_false_iff, Bool.not_eq_false'] at hb
      by_cases hc : okCeil z = true
      · obtain ⟨c, rfl, hc2⟩ := ceil_of hc
        obtain ⟨h, rfl, hh⟩ := nat_of hb.1
        obtain ⟨l, rfl, hl⟩ := nat_of hb.2
        refine q_drop (need_ok hz (ev_var rfl) hc) fun H2 e2 => ?_
        refine s_ret (ev_is (ev_way (K := K) (L := l) (l := l) (c := c) (h := (h : Int)) (by omega) (Nat.le_refl _) (ev_var rfl) (ev_var rfl) (ev_var rfl) (ev_var rfl)) (by rw [WZ_nat])) fun H3 e3 => q h l c rfl (by omega) rfl (by omega) rfl hc2 H3 ((e1.trans e2).trans e3)
      · refine ⟨_, rfl, _, rfl, hz, fun z => absurd z hc, fun z H2 e2 => qe (.inr (.inr (by simpa using hc))) H2 (e1.trans e2)⟩
theorem ev_ways {σ : L2.St} {H : Hp} {ta tb tc : TE} {h l : Nat} {c : Option Nat} {C : Addr} {E : XK} (hh : h ≤ 200) (hl : l ≤ 400) (hc : ∀ m, c = some m → m ≤ 200) (h1 : Ev ta σ H (.int (h : Int))) (h2 : Ev tb σ H (.int (l : Int))) (h3 : Ev tc σ H (ceilV c)) :
    Ev (tCall (spWays C) [] E (tCons ta (tCons tb (tCons tc tNil)))) σ H (.int (W c l h)) :=
  ev_call (ea_cons h1 (ea_cons h2 (ea_cons h3 ea_nil))) fun H1 _ Q q E => ⟨_, _, _, rfl, .int _, .int _, plain_ceil c, fun h' l' c' e1 _ e2 _ e3 _ => by
    rw [← intV_inj e1, ← intV_inj e2, ← ceilV_inj e3]
    exact q, fun z => by
    exfalso
    rcases z with z | z | z
    · rw [show isNum (.int (h : Int)) 0 200 = true from num_nat hh] at z
      cases z
    · rw [show isNum (.int (l : Int)) 0 400 = true from num_nat hl] at z
      cases z
    · rw [ok_ceil hc] at z
      cases z⟩
theorem ev_ways_d {σ : L2.St} {H : Hp} {ta tb : TE} {h l : Nat} {C : Addr} {E : XK} (hh : h ≤ 200) (hl : l ≤ 400) (h1 : Ev ta σ H (.int (h : Int))) (h2 : Ev tb σ H (.int (l : Int))) :
    Ev (tCall (spWays C) [.non] E (tCons ta (tCons tb tNil))) σ H (.int (W none l h)) :=
  fun H1 e Q q => h1 H1 e _ fun H2 e2 => h2 H2 (e.trans e2) _ fun H3 e3 => ev_ways (E := E) (c := none) (tc := tC .non) hh hl (fun _ z => by cases z) (ta := tC (.int (h : Int))) (tb := tC (.int (l : Int))) (σ := σ) (H := H3) ev_c ev_c ev_c H3 (Ex.refl _) Q (fun H4 e4 => q H4 ((e2.trans e3).trans e4))
end
end Hl
/-! The law's own draws. -/
namespace Hl
open PySem PySem.Spec PyProof.Rows L2 Evl
def mixed (c k : Int) : Int := ((((c % 2147483629 + 104729 * (k + 1)) * 16807 % 2147483647) * ((c % 2147483629 + 104729 * (k + 1)) * 16807 % 2147483647)) % 2147483629 * 48271) % 2147483647
theorem mixed_lo (c k : Int) : 0 ≤ mixed c k := Int.emod_nonneg _ (by decide)
theorem mixed_hi (c k : Int) : mixed c k < 2147483647 := Int.emod_lt_of_pos _ (by decide)
abbrev s_law_mixed : Stmt := topS 13
abbrev N_law_mixed : List Str := ["_law_cell", "_law_k", "_law_mark"]
abbrev ps_law_mixed : List Str := ["_law_cell", "_law_k"]
theorem sc_law_mixed : FnScope N_law_mixed ps_law_mixed (defScope s_law_mixed) := ⟨rfl, rfl, rfl, by decide +kernel, rfl, by decide +kernel, by decide +kernel⟩

abbrev s_law_number : Stmt := topS 14
abbrev N_law_number : List Str := ["_law_script", "_law_k"]
abbrev ps_law_number : List Str := ["_law_script", "_law_k"]
theorem sc_law_number : FnScope N_law_number ps_law_number (defScope s_law_number) := ⟨rfl, rfl, rfl, by decide +kernel, rfl, by decide +kernel, by decide +kernel⟩

def spMixed : Sp := fun vs H Q _ => ∃ c k : Int, vs = [.int c, .int k] ∧ RetV (.int (mixed c k)) H Q
def cellOf (ns : List Int) (k : Nat) : Int := ns.getD k 0
def spNumber (K : PySem.W.Frag) : Sp := fun vs H Q _ => ∃ (a : Addr) (ns : List Int) (k : Nat), vs = [.ref a, .int (k : Int)] ∧ SqL K H a (ns.map V.int) ∧ RetV (.int (mixed (cellOf ns k) k)) H Q
section
variable {P : Program} {w : World} {K : PySem.W.Frag} {mg : Str → Option Value} {base : Heap} {f : Addr} {fd : FuncData}
theorem ok_law_mixed (F : FnP K "_law_mixed" s_law_mixed [] f fd) : FnOk P w K mg base (L2.CX P w) 1 f fd ps_law_mixed spMixed := by
  refine F.ok sc_law_mixed (fun vs H Q E h => ?_) (fun cdv A outer s H vs Q E hr h => ?_)
  · obtain ⟨c, k, rfl, _⟩ := h
    rfl
  · obtain ⟨c, k, rfl, q⟩ := h
    refine ⟨_, (pss_cons (ps_set (i := 2) sc_law_mixed.nd rfl (by first | exact Or.inl rfl | exact Or.inr rfl) (pe_op op_mod (pe_op op_mul (pe_op op_add (pe_op op_mod (pv 0) pe_int) (pe_op op_mul pe_int (pe_op op_add (pv 1) pe_int))) pe_int) pe_int))
    (pss_one (ps_ret (pe_op op_mod (pe_op op_mul (pe_op op_mod (pe_op op_mul (pv 2) (pv 2)) pe_int) pe_int) pe_int)))), ?_⟩
    have h0 : 0 ≤ (c % 2147483629 + 104729 * (k + 1)) * 16807 % 2147483647 := Int.emod_nonneg _ (by decide)
    have h1 : (c % 2147483629 + 104729 * (k + 1)) * 16807 % 2147483647 < 2147483647 := Int.emod_lt_of_pos _ (by decide)
    refine q_asg (v := .int ((c % 2147483629 + 104729 * (k + 1)) * 16807 % 2147483647)) (by walk_at "ev") fun H1 e1 => ?_
    refine s_ret (v := .int (mixed c k)) (by walk_at "ev") fun H2 e2 => q H2 (e1.trans e2)
theorem ev_mixed {σ : L2.St} {H : Hp} {ta tb : TE} {c k : Int} {E : XK} (h1 : Ev ta σ H (.int c)) (h2 : Ev tb σ H (.int k)) : Ev (tCall spMixed [] E (tCons ta (tCons tb tNil))) σ H (.int (mixed c k)) :=
  ev_call (ea_cons h1 (ea_cons h2 ea_nil)) fun H1 _ Q q _ => ⟨c, k, rfl, q⟩
theorem ok_law_number (F : FnP K "_law_number" s_law_number [] f fd) (B : Blt mg) (f__law_mixed : Cal P w K mg base 1 "_law_mixed" spMixed []) : FnOk P w K mg base (L2.CX P w) 2 f fd ps_law_number (spNumber K) := by
  refine F.ok sc_law_number (fun vs H Q E h => ?_) (fun cdv A outer s H vs Q E hr h => ?_)
  · obtain ⟨a, ns, k, rfl, _⟩ := h
    rfl
  · obtain ⟨a, ns, k, rfl, hS, q⟩ := h
    refine ⟨_, (pss_one (ps_ret (pe_cal f__law_mixed hr (by decide) (by rfl) hxOf (pa_cons (pe_ifExp (pt_cmpR op_lt (pv 1) (pe_callB call_len_seq (by rfl) B.len (by first | rfl | decide +kernel) (pa_cons (pv 0) pa_nil)) (nomark _)) (pe_ix ix_list (pv 0) (pv 1) (fun _ _ => rfl)) pe_int) (pa_cons (pv 1) pa_nil))))), ?_⟩
    refine s_ret (ev_mixed (c := cellOf ns k) (k := (k : Int)) (ev_if (b := decide ((k : Int) < ((ns.map V.int).length : Int))) (et_test (ev_op (ev_var rfl) (ev_len (ev_var rfl) hS) rv_I0)) (fun hb => ?_) (fun hb => ?_)) (ev_var rfl)) q
    · have hk : k < ns.length := by simpa using hb
      exact ev_op (ev_var rfl) (ev_var rfl) (rv_ixL hS (at_int (i := k) rfl (by simp [cellOf, hk])))
    · have hk : ns.length ≤ k := by simpa using hb
      refine ev_is ev_c ?_
      simp [cellOf, List.getD, List.getElem?_eq_none hk]
theorem ev_number {σ : L2.St} {H : Hp} {ta tb : TE} {a : Addr} {ns : List Int} {k : Nat} {E : XK} (hS : SqL K H a (ns.map V.int)) (h1 : Ev ta σ H (.ref a)) (h2 : Ev tb σ H (.int (k : Int))) : Ev (tCall (spNumber K) [] E (tCons ta (tCons tb tNil))) σ H (.int (mixed (cellOf ns k) k)) :=
  ev_call (ea_cons h1 (ea_cons h2 ea_nil)) fun H1 e Q q _ => ⟨a, ns, k, rfl, ex_l e hS, q⟩
end
end Hl
/-! The law: ways step by step. -/
namespace Hl
open PySem PySem.Spec PyProof.Rows L2 Evl
abbrev s_law : Stmt := topS 15
abbrev N_law : List Str := ["_law_script", "_law_k", "_law_cell", "_law_mark", "_law_height", "_law_left", "_law_ceiling", "_law_found", "_law_due"]
abbrev ps_law : List Str := ["_law_script"]
theorem sc_law : FnScope N_law ps_law (defScope s_law) := ⟨rfl, rfl, rfl, by decide +kernel, rfl, by decide +kernel, by decide +kernel⟩

def spLaw (K : PySem.W.Frag) : Sp := fun vs H Q _ => ∃ (a : Addr) (ns : List Int), vs = [.ref a] ∧ SqL K H a (ns.map V.int) ∧ ns.length ≤ 63 ∧ ∀ H', Q (.bl true) H'
theorem ev_intB {σ : L2.St} {H : Hp} {ta : TE} {b : Bool} (h1 : Ev ta σ H (.bl b)) : Ev (tCB (fun xs H Q => (∃ i, xs = [.int i] ∧ Q (.int i) H) ∨ ∃ k, xs = [.bl k] ∧ Q (.int (if k = true then 1 else 0)) H) (tCons ta tNil)) σ H (.int (if b = true then 1 else 0)) :=
  ev_cb (ea_cons h1 ea_nil) fun H1 _ Q q => .inr ⟨b, rfl, q H1 (Ex.refl H1)⟩
theorem dec_ne {a b : V} (h : a = b) : (!decide (a = b)) = false := by rw [decide_eq_true h]; rfl
section
variable {P : Program} {w : World} {K : PySem.W.Frag} {mg : Str → Option Value} {base : Heap} {f : Addr} {fd : FuncData}
theorem ok_law {C : Addr} (F : FnP K "law" s_law [] f fd) (B : Blt mg) (f__law_mixed : Cal P w K mg base 1 "_law_mixed" spMixed []) (f_counted : Cal P w K mg base 3 "counted" (spCounted C) []) (f_ways : Cal P w K mg base 3 "ways" (spWays C) []) (f_ways_d : Cal P w K mg base 3 "ways" (spWays C) [.non]) :
    FnOk P w K mg base (L2.CX P w) 4 f fd ps_law (spLaw K) := by
  refine F.ok sc_law (fun vs H Q E h => ?_) (fun cdv A outer s H vs Q E hr h => ?_)
  · obtain ⟨a, ns, rfl, _⟩ := h
    rfl
  · obtain ⟨a, ns, rfl, hS, hl, q⟩ := h
    refine ⟨_, (pss_cons (ps_for hpOf rfl (pi_enum (by rfl) B.enumerate (pa_cons (pe_slice sl_list (pv 0) po_none (po_some pe_int)) pa_nil)) (pg_tup rfl (pgs_cons (pg_name (i := 1) sc_law.nd rfl (by first | exact Or.inl rfl | exact Or.inr rfl)) (pgs_cons (pg_name (i := 2) sc_law.nd rfl (by first | exact Or.inl rfl | exact Or.inr rfl)) pgs_nil)))
      (pss_cons (ps_set (i := 3) sc_law.nd rfl (by first | exact Or.inl rfl | exact Or.inr rfl) (pe_cal f__law_mixed hr (by decide) (by rfl) hxOf (pa_cons (pv 2) (pa_cons (pv 1) pa_nil))))
      (pss_cons (ps_set (i := 4) sc_law.nd rfl (by first | exact Or.inl rfl | exact Or.inr rfl) (pe_op op_mod (pv 3) (pe_ix ix_list (pe_lst (pa_cons pe_int (pa_cons pe_int pa_nil))) (pe_op op_mod (pe_op op_fdiv (pv 3) pe_int) pe_int) (fun _ _ => rfl))))
      (pss_cons (ps_set (i := 5) sc_law.nd rfl (by first | exact Or.inl rfl | exact Or.inr rfl) (pe_op op_mod (pe_op op_fdiv (pv 3) pe_int) (pe_ix ix_list (pe_lst (pa_cons pe_int (pa_cons pe_int pa_nil))) (pe_op op_mod (pe_op op_fdiv (pv 3) pe_int) pe_int) (fun _ _ => rfl))))
      (pss_cons (ps_set (i := 6) sc_law.nd rfl (by first | exact Or.inl rfl | exact Or.inr rfl) (pe_ix ix_list (pe_lst (pa_cons pe_non (pa_cons (pe_op op_mod (pe_op op_fdiv (pv 3) pe_int) (pe_ix ix_list (pe_lst (pa_cons pe_int (pa_cons pe_int pa_nil))) (pe_op op_mod (pe_op op_fdiv (pv 3) pe_int) pe_int) (fun _ _ => rfl))) pa_nil))) (pe_op op_mod (pe_op op_mod (pe_op op_fdiv (pv 3) pe_int) pe_int) pe_int) (fun _ _ => rfl)))
      (pss_cons (ps_set (i := 7) sc_law.nd rfl (by first | exact Or.inl rfl | exact Or.inr rfl) (pe_cal f_ways hr (by decide) (by rfl) hxOf (pa_cons (pv 4) (pa_cons (pv 5) (pa_cons (pv 6) pa_nil)))))
      (pss_cons (ps_set (i := 8) sc_law.nd rfl (by first | exact Or.inl rfl | exact Or.inr rfl) pe_int)
      (Evl.pss_cut (ps_if (pt_cmpR op_eq (pv 5) pe_int (nomark _))
        (pss_one (ps_set (i := 8) sc_law.nd rfl (by first | exact Or.inl rfl | exact Or.inr rfl) (pe_callTy call_int1 (by rfl) B.int (by first | rfl | decide +kernel) (pa_cons (pe_cmpR op_eq (pv 4) pe_int (nomark _)) pa_nil))))
        (pss_one (ps_if (PW.pt (pw_or (pt_cmpR op_isN (pv 6) pe_non (nomark _)) (pw_or1 (pt_cmpR op_le (pv 4) (pv 6) (nomark _)))))
          (pss_cons (ps_set (i := 8) sc_law.nd rfl (by first | exact Or.inl rfl | exact Or.inr rfl) (pe_cal f_ways hr (by decide) (by rfl) hxOf (pa_cons (pe_op op_add (pv 4) pe_int) (pa_cons (pe_op op_sub (pv 5) pe_int) (pa_cons (pv 6) pa_nil)))))
          (pss_one (ps_if (pt_cmpR op_gt (pv 4) pe_int (nomark _))
            (pss_one (ps_set (i := 8) sc_law.nd rfl (by first | exact Or.inl rfl | exact Or.inr rfl) (pe_op op_add (pv 8) (pe_cal f_ways hr (by decide) (by rfl) hxOf (pa_cons (pe_op op_sub (pv 4) pe_int) (pa_cons (pe_op op_sub (pv 5) pe_int) (pa_cons (pv 6) pa_nil)))))))
            pss_nil)))
          pss_nil)))
      (pss_cons (ps_if (PW.pt (pw_or (pt_cmpR op_ne (pv 7) (pv 8) (nomark _)) (pw_or1 (pt_cmpR op_ne (pe_cal f_ways hr (by decide) (by rfl) hxOf (pa_cons pe_int (pa_cons (pe_op op_mul pe_int (pe_op op_fdiv (pv 5) pe_int)) (pa_cons (pv 6) pa_nil)))) (pe_cal f_counted hr (by decide) (by rfl) hxOf (pa_cons (pe_op op_fdiv (pv 5) pe_int) (pa_cons (pv 6) pa_nil))) (nomark _)))))
        (pss_one (ps_ret pe_bl))
        pss_nil)
      (pss_cons (ps_if (PW.pt (pw_and (pt_cmpR op_isN (pv 6) pe_non (nomark _)) (pw_and1 (PW.pt (pw_or (pt_cmpR op_ne (pe_cal f_ways_d hr (by decide) (by rfl) hxOf (pa_cons (pv 4) (pa_cons (pv 5) pa_nil))) (pv 7) (nomark _)) (pw_or1 (pt_cmpR op_ne (pe_cal f_ways hr (by decide) (by rfl) hxOf (pa_cons (pv 4) (pa_cons (pv 5) (pa_cons pe_int pa_nil)))) (pv 7) (nomark _))))))))
        (pss_one (ps_ret pe_bl))
        pss_nil)
      (pss_one (ps_if (PW.pt (pw_and (pt_cmpR op_gt (pe_op op_add (pv 4) (pv 5)) pe_int (nomark _)) (pw_and (pt_cmpR op_notN (pv 6) pe_non (nomark _)) (pw_and (pt_cmpR op_gt (pv 4) (pv 6) (nomark _)) (pw_and1 (pt_cmpR op_ne (pv 7) pe_int (nomark _)))))))
        (pss_one (ps_ret pe_bl))
        pss_nil))))))))))))
    (pss_one (ps_ret (pe_and (pe_cmpR op_eq (pe_cal f_ways_d hr (by decide) (by rfl) hxOf (pa_cons pe_int (pa_cons pe_int pa_nil))) pe_int (nomark _)) (pe_and (pe_cmpR op_eq (pe_cal f_ways_d hr (by decide) (by rfl) hxOf (pa_cons pe_int (pa_cons pe_int pa_nil))) pe_int (nomark _)) (pe_one (pe_cmpR op_eq (pe_cal f_ways_d hr (by decide) (by rfl) hxOf (pa_cons pe_int (pa_cons pe_int pa_nil))) pe_int (nomark _)))))))), ?_⟩
    obtain ⟨ms, hms, hml, _⟩ := cut_map ns none (some 12)
    refine q_forEnN (K := K) (xs := ms.map V.int) (el_is (el_sl (ev_var rfl) eo_none (eo_some ev_c) hS) hms) (fun p i σ H' => ∃ s1 s2 s3 s4 s5 s6 s7 s8 : Option V, σ = [some (.ref a), s1, s2, s3, s4, s5, s6, s7, s8] ∧ SqL K H' p (ms.map V.int))
      (fun p H1 _ _ hp => ⟨_, _, _, _, _, _, _, _, rfl, sq_of hp⟩) (fun p i σ H' _ ⟨_, _, _, _, _, _, _, _, _, hp⟩ => hp) (fun p i x σ H' H2 hx hP e2 => ?_) (fun p σ H' hP => ?_)
    · obtain ⟨s1, s2, s3, s4, s5, s6, s7, s8, rfl, hp⟩ := hP
      obtain ⟨z, _, rfl⟩ := int_at hx
      have hp2 := ex_l e2 hp
      refine q_asg (v := .int (mixed z i)) (ev_mixed (ev_var rfl) (ev_var rfl)) fun H3 e3 => ?_
      have h0 := mixed_lo z i
      have h1 := mixed_hi z i
      generalize mixed z i = mk at h0 h1
      -- the height
      have hd1 : 0 < (if mk / 7 % 2 = 0 then (4 : Int) else 61) ∧ (if mk / 7 % 2 = 0 then (4 : Int) else 61) ≤ 61 := by split <;> omega
      obtain ⟨h, hh⟩ := Int.eq_ofNat_of_zero_le (Int.emod_nonneg mk (show (if mk / 7 % 2 = 0 then (4 : Int) else 61) ≠ 0 by omega))
      have hh60 : h ≤ 60 := by
        have := Int.emod_lt_of_pos mk hd1.1
        omega
      refine q_asg (v := .int (h : Int)) (ev_is (v := .int (mk % (if mk / 7 % 2 = 0 then (4 : Int) else 61))) (ev_op (ev_var rfl) (ev_is (ev_pick (el_lst (ea_cons ev_c (ea_cons ev_c ea_nil)) (by show 2 ≤ 100000; decide)) (i := mk / 7 % 2) (by walk_at "ev") (pick2 (by omega) (by omega))) (w := .int (if mk / 7 % 2 = 0 then (4 : Int) else 61)) (by split <;> rfl)) (rv_I hd1.1)) (by rw [hh])) fun H4 e4 => ?_
      -- the signs
      have hd2 : 0 < (if mk / 15 % 2 = 0 then (9 : Int) else 121) ∧ (if mk / 15 % 2 = 0 then (9 : Int) else 121) ≤ 121 := by split <;> omega
      obtain ⟨l, hl⟩ := Int.eq_ofNat_of_zero_le (Int.emod_nonneg (mk / 100) (show (if mk / 15 % 2 = 0 then (9 : Int) else 121) ≠ 0 by omega))
      have hl120 : l ≤ 120 := by
        have := Int.emod_lt_of_pos (mk / 100) hd2.1
        omega
      refine q_asg (v := .int (l : Int)) (ev_is (v := .int (mk / 100 % (if mk / 15 % 2 = 0 then (9 : Int) else 121))) (ev_op (by walk_at "ev") (ev_is (ev_pick (el_lst (ea_cons ev_c (ea_cons ev_c ea_nil)) (by show 2 ≤ 100000; decide)) (i := mk / 15 % 2) (by walk_at "ev") (pick2 (by omega) (by omega))) (w := .int (if mk / 15 % 2 = 0 then (9 : Int) else 121)) (by split <;> rfl)) (rv_I hd2.1)) (by rw [hl])) fun H5 e5 => ?_
      -- the ceiling
      have hd3 : 0 < (if mk / 11 % 2 = 0 then (5 : Int) else 61) ∧ (if mk / 11 % 2 = 0 then (5 : Int) else 61) ≤ 61 := by split <;> omega
      have hn3 := Int.emod_nonneg (mk / 20000) (show (if mk / 11 % 2 = 0 then (5 : Int) else 61) ≠ 0 by omega)
      have hm3 := Int.emod_lt_of_pos (mk / 20000) hd3.1
      obtain ⟨c, hc, hc7⟩ : ∃ c : Option Nat, ceilV c = (if mk / 3 % 3 % 2 = 0 then V.non else .int (mk / 20000 % (if mk / 11 % 2 = 0 then (5 : Int) else 61))) ∧ ∀ m, c = some m → m ≤ 60 := by
        by_cases z : mk / 3 % 3 % 2 = 0
        · exact ⟨none, by rw [if_pos z]; rfl, fun _ e => by cases e⟩
        · refine ⟨some (mk / 20000 % (if mk / 11 % 2 = 0 then (5 : Int) else 61)).toNat, ?_, fun m e => ?_⟩
          · rw [if_neg z]
            show V.int _ = V.int _
            congr 1
            omega
          · cases e
            omega
      have hc2 : ∀ m, c = some m → m ≤ 200 := fun m e => by have := hc7 m e; omega
      refine q_asg (v := ceilV c) (by
        rw [hc]
        exact ev_pick (el_lst (ea_cons ev_c (ea_cons (x := .int (mk / 20000 % (if mk / 11 % 2 = 0 then (5 : Int) else 61))) (ev_op (by walk_at "ev") (ev_is (ev_pick (el_lst (ea_cons ev_c (ea_cons ev_c ea_nil)) (by show 2 ≤ 100000; decide)) (i := mk / 11 % 2) (by walk_at "ev") (pick2 (by omega) (by omega))) (w := .int (if mk / 11 % 2 = 0 then (5 : Int) else 61)) (by split <;> rfl)) (rv_I hd3.1)) ea_nil)) (by show 2 ≤ 100000; decide)) (i := mk / 3 % 3 % 2) (by walk_at "ev") (pick2 (by omega) (by omega))) fun H6 e6 => ?_
      have e26 : Ex H2 H6 := (e3.trans e4).trans (e5.trans e6)
      refine q_asg (v := .int (W c l h)) (ev_ways (by omega) (by omega) hc2 (ev_var rfl) (ev_var rfl) (ev_var rfl)) fun H7 e7 => ?_
      refine q_asg (v := .int 0) ev_c fun H8 e8 => ?_
      -- what is due
      refine q_cut (M := fun σ H' => σ = [some (.ref a), some (.int (i : Int)), some (.int z), some (.int mk), some (.int (h : Int)), some (.int (l : Int)), some (ceilV c), some (.int (W c l h)), some (.int (W c l h))] ∧ Ex H2 H') ?_ ?_
      · have eT : Ev (tOp rEq (tVar 5) (tC (.int 0))) [some (.ref a), some (.int (i : Int)), some (.int z), some (.int mk), some (.int (h : Int)), some (.int (l : Int)), some (ceilV c), some (.int (W c l h)), some (.int 0)] H8 (.bl (decide (l = 0))) :=
          ev_is (ev_op (ev_var rfl) ev_c (rv_eq rfl)) (by
            congr 1
            by_cases z : l = 0
            · subst z
              rfl
            · rw [decide_eq_false z, decide_eq_false (show ¬ (V.int (l : Int) = V.int 0) from fun q => z (intV_inj (n := 0) q))])
        refine s_if (et_test eT) (fun hb H9 e9 => ?_) (fun hb H9 e9 => ?_)
        · have hl0 : l = 0 := of_decide_eq_true hb
          subst hl0
          refine s_asg (v := .int (W c 0 h)) (ev_is (ev_intB (ev_op (ev_var rfl) ev_c (rv_eq rfl))) ?_) fun H10 e10 => ⟨rfl, ((e26.trans e7).trans (e8.trans e9)).trans e10⟩
          by_cases z : h = 0
          · subst z
            rfl
          · have : ¬ (V.int (h : Int) = V.int 0) := fun q => z (intV_inj (n := 0) q)
            rw [decide_eq_false this]
            simp [W, z]
        · have hl0 : l ≠ 0 := of_decide_eq_false hb
          obtain ⟨l', rfl⟩ : ∃ l', l = l' + 1 := ⟨l - 1, by omega⟩
          have eo : EvT (tOr (tTest (tOp (fun x y H Q => y = V.non ∧ Q (.bl (decide (x = V.non))) H) (tVar 6) (tC .non))) (tTest (tOp (rI0 fun i j => .bl (decide (i ≤ j))) (tVar 4) (tVar 6)))) [some (.ref a), some (.int (i : Int)), some (.int z), some (.int mk), some (.int (h : Int)), some (.int ((l' + 1 : Nat) : Int)), some (ceilV c), some (.int (W c (l' + 1) h)), some (.int 0)] H9 (!over c h) := by
            cases hcc : c with
            | none => exact et_or (a := true) (b := true) (et_test (ev_op (ev_var rfl) ev_c rv_isN)) (fun z => by cases z)
            | some m =>
              refine et_is (et_or (a := false) (b := decide ((h : Int) ≤ (m : Int))) (et_test (ev_op (ev_var rfl) ev_c rv_isN)) (fun _ => et_test (ev_op (ev_var rfl) (ev_var rfl) rv_I0))) ?_
              simp [over]
              by_cases z : h ≤ m
              · simp [z]
              · simp [z]; omega
          refine s_if (b := !over c h) eo (fun hb H10 e10 => ?_) (fun hb H10 e10 => ?_)
          · have ho : over c h = false := by simpa using hb
            have hst := W_step (l := l') ho
            refine q_asg (v := .int (W c l' (h + 1))) (ev_ways (h := h + 1) (l := l') (by omega) (by omega) hc2 (ev_is (ev_op (ev_var rfl) ev_c rv_I0) (by congr 1)) (ev_is (ev_op (ev_var rfl) ev_c rv_I0) (by congr 1; omega)) (ev_var rfl)) fun H11 e11 => ?_
            refine s_when (b := decide ((0 : Int) < (h : Int))) (et_test (ev_op (ev_var rfl) ev_c rv_I0)) (fun hb2 H12 e12 => ?_) (fun hb2 H12 e12 => ?_)
            · have hp : 0 < h := by simpa using hb2
              refine s_asg (v := .int (W c (l' + 1) h)) (ev_is (ev_op (ev_var rfl) (ev_ways (h := h - 1) (l := l') (by omega) (by omega) hc2 (ev_is (ev_op (ev_var rfl) ev_c rv_I0) (by congr 1; omega)) (ev_is (ev_op (ev_var rfl) ev_c rv_I0) (by congr 1; omega)) (ev_var rfl)) rv_I0) ?_) fun H13 e13 => ⟨rfl, (((e26.trans e7).trans (e8.trans e9)).trans ((e10.trans e11).trans e12)).trans e13⟩
              rw [hst, if_neg (by omega)]
              congr 1
              omega
            · have hp : h = 0 := by
                have : ¬ (0 : Int) < (h : Int) := of_decide_eq_false hb2
                omega
              subst hp
              refine ⟨?_, ((e26.trans e7).trans (e8.trans e9)).trans ((e10.trans e11).trans e12)⟩
              rw [hst, if_pos rfl, Nat.zero_add]
              rfl
          · have ho : over c h = true := by simpa using hb
            refine ⟨?_, ((e26.trans e7).trans (e8.trans e9)).trans e10⟩
            rw [W_over ho]
            rfl
      · rintro σ H9 ⟨rfl, e29⟩
        -- found = due; from 0 with twice n signs as many as are counted
        refine q_when (b := false) (et_is (et_or (a := false) (b := false) (et_is (et_test (ev_op (ev_var rfl) (ev_var rfl) (rv_ne rfl))) (dec_ne rfl)) (fun _ => et_is (et_test (ev_op (ev_ways (h := 0) (l := 2 * (l / 2)) (by omega) (by omega) hc2 ev_c (ev_is (ev_op ev_c (ev_op (ev_var rfl) ev_c (rv_I (C := CDiv) ⟨by decide, by decide⟩)) (rv_I (C := CMul) (.inl ⟨by decide, by decide⟩))) (by congr 1)) (ev_var rfl))
          (ev_counted (n := l / 2) (by omega) hc2 (ev_is (ev_op (ev_var rfl) ev_c (rv_I (C := CDiv) ⟨by decide, by decide⟩)) (by congr 1)) (ev_var rfl)) (rv_ne rfl))) (dec_ne rfl))) rfl) (fun z => by cases z) fun _ H10 e10 => ?_
        refine q_when (b := false) ?_ (fun z => by cases z) fun _ H11 e11 => ?_
        · cases hcc : c with
          | none =>
            refine et_is (et_and (a := true) (b := false) (et_test (ev_op (ev_var rfl) ev_c rv_isN)) (fun _ => ?_)) rfl
            refine et_is (et_or (a := false) (b := false) (et_is (et_test (ev_op (ev_ways_d (h := h) (l := l) (by omega) (by omega) (ev_var rfl) (ev_var rfl)) (ev_var rfl) (rv_ne rfl))) (dec_ne rfl)) (fun _ => et_is (et_test (ev_op (ev_ways (h := h) (l := l) (c := some 200) (by omega) (by omega) (fun m z => by cases z; decide) (ev_var rfl) (ev_var rfl) ev_c) (ev_var rfl) (rv_ne rfl))) (dec_ne ?_))) rfl
            rw [W_free (by omega)]
          | some m => exact et_is (et_and (a := false) (b := false) (et_test (ev_op (ev_var rfl) ev_c rv_isN)) (fun z => by cases z)) rfl
        · refine s_when (b := false) ?_ (fun z => by cases z) fun _ H12 e12 => ⟨_, _, _, _, _, _, _, _, rfl, ex_l ((e29.trans e10).trans (e11.trans e12)) hp2⟩
          have last : ∀ b1 b2 b3 b4 : Bool, (b2 = true → b3 = true → b4 = false) → (b1 && (b2 && (b3 && b4))) = false := by
            intro b1 b2 b3 b4 k
            cases b1 <;> cases b2 <;> cases b3 <;> simp at * <;> first | rfl | exact k
          cases hcc : c with
          | none =>
            exact et_is (et_and (b := false) (et_test (ev_op (ev_op (ev_var rfl) (ev_var rfl) rv_I0) ev_c rv_I0)) (fun _ => et_is (et_and (a := false) (b := false) (et_test (ev_op (ev_var rfl) ev_c rv_notN)) (fun z => by cases z)) rfl)) (by simp)
          | some m =>
            refine et_is (et_and (et_test (ev_op (ev_op (ev_var rfl) (ev_var rfl) rv_I0) ev_c rv_I0)) (fun _ => et_and (a := true) (et_test (ev_op (ev_var rfl) ev_c rv_notN)) (fun _ => et_and (et_test (ev_op (ev_var rfl) (ev_var rfl) rv_I0)) (fun _ => et_test (ev_op (ev_var rfl) ev_c (rv_ne rfl)))))) ?_
            refine last _ _ _ _ fun _ h3 => ?_
            have hov : over (some m) h = true := by
              have : (m : Int) < (h : Int) := of_decide_eq_true h3
              simp [over]
              omega
            exact dec_ne (by rw [W_over hov]; rfl)
    · obtain ⟨s1, s2, s3, s4, s5, s6, s7, s8, rfl, hp⟩ := hP
      refine s_ret (ev_is (ev_andV (a := true) (b := true) (ev_is (ev_op (ev_ways_d (h := 0) (l := 0) (by omega) (by omega) ev_c ev_c) ev_c (rv_eq rfl)) (by decide +kernel)) (fun _ => ev_is (ev_andV (a := true) (b := true) (ev_is (ev_op (ev_ways_d (h := 1) (l := 1) (by omega) (by omega) ev_c ev_c) ev_c (rv_eq rfl)) (by decide +kernel))
        (fun _ => ev_is (ev_op (ev_ways_d (h := 1) (l := 2) (by omega) (by omega) ev_c ev_c) ev_c (rv_eq rfl)) (by decide +kernel))) rfl)) rfl) fun H9 _ => q H9
end
end Hl
/-! ### the end -/
namespace Hl
open PySem PySem.Spec PyProof.Rows L2 Evl
def d_is_number : He.DefD := ⟨("is_number", none), "is_number", "is_number", defArgs s_is_number, defBody s_is_number, defScope s_is_number, [], []⟩
def d_need_ceiling : He.DefD := ⟨("need_ceiling", none), "need_ceiling", "need_ceiling", defArgs s_need_ceiling, defBody s_need_ceiling, defScope s_need_ceiling, [], []⟩
def d_table_of : He.DefD := ⟨("table_of", none), "table_of", "table_of", defArgs s_table_of, defBody s_table_of, defScope s_table_of, [], []⟩
def d_from_table : He.DefD := ⟨("from_table", none), "from_table", "from_table", defArgs s_from_table, defBody s_from_table, defScope s_from_table, [], []⟩
def d_counted : He.DefD := ⟨("counted", none), "counted", "counted", defArgs s_counted, defBody s_counted, defScope s_counted, [.non], []⟩
def d_ways : He.DefD := ⟨("ways", none), "ways", "ways", defArgs s_ways, defBody s_ways, defScope s_ways, [.non], []⟩
def d_law_mixed : He.DefD := ⟨("_law_mixed", none), "_law_mixed", "_law_mixed", defArgs s_law_mixed, defBody s_law_mixed, defScope s_law_mixed, [], []⟩
def d_law_number : He.DefD := ⟨("_law_number", none), "_law_number", "_law_number", defArgs s_law_number, defBody s_law_number, defScope s_law_number, [], []⟩
def d_law : He.DefD := ⟨("law", none), "law", "law", defArgs s_law, defBody s_law, defScope s_law, [], []⟩
def fnL : List He.DefD := [d_is_number, d_need_ceiling, d_table_of, d_from_table, d_counted, d_ways, d_law_mixed, d_law_number, d_law]
def faL : List He.Fa := [.glo "is_number", .glo "need_ceiling", .glo "table_of", .glo "from_table", .glo "counted", .glo "ways", .glo "_law_mixed", .glo "_law_number", .glo "law", .glo "HillError", .glo "NoCount", .exc "HillError", .exc "NoCount", .int "MOST" 200, .free "len", .free "min", .free "max", .free "sum", .free "sorted", .free "isinstance", .free "int", .free "bool", .free "str", .free "list", .free "tuple", .free "set", .free "range", .free "enumerate", .free "zip", .free "reversed", .free "ValueError"]
def exB (K : PySem.W.Frag) : Bool := true
abbrev RL : PySem.W.OpenRow := PySem.W.OpenLaw.row PySem.Challenge.rw_hillrows_k03_ways
abbrev hkL : PySem.W.Hook := He.hookX 4 faL fnL [] [] exB
def obL (s : PySem.W.SharedT) : He.AlX := He.obsX 4 faL fnL [] [] exB (HandSHeadRun.getT s)
theorem obL_eq (s : PySem.W.SharedT) : obL s = hkL.obs s.abs := He.obsX_eq (HandSHeadRun.getT_eq s)
theorem runL (w : World) : HandSHeadRun.RunEq RL (PySem.W.view RL.prog [15]) hkL obL 6000 ["HillError", "NoCount", "MOST", "is_number", "need_ceiling", "table_of", "from_table", "counted", "ways", "_law_mixed", "_law_number"] w := by
  intro os
  kernel_rfl
theorem facts {P : Program} {w : World} {K : PySem.W.Frag} {h : Heap} {mg : Str → Option Value} {f : Addr} (X : K.In h) (G : h.Ns mainGlobals mg) (hfa : mg ("law" : Str) = some (.ref f)) (c : He.SaysD faL fnL K) (ex : exB K = true) :
    ∃ fd : FuncData, (∀ (s : Shared) (v : Value), BindsTo s fd ⟨[v], []⟩ [("_law_script", v)]) ∧ ∀ base : Heap, K.In base → base.Ns mainGlobals mg → FnOk P w K mg base CX0 4 f fd ["_law_script"] (spLaw K) := by
  obtain ⟨fd_is_number, F_is_number⟩ := c.def_ 0 (d := d_is_number) rfl
  obtain ⟨fd_need_ceiling, F_need_ceiling⟩ := c.def_ 1 (d := d_need_ceiling) rfl
  obtain ⟨fd_table_of, F_table_of⟩ := c.def_ 2 (d := d_table_of) rfl
  obtain ⟨fd_from_table, F_from_table⟩ := c.def_ 3 (d := d_from_table) rfl
  obtain ⟨fd_counted, F_counted⟩ := c.def_ 4 (d := d_counted) rfl
  obtain ⟨fd_ways, F_ways⟩ := c.def_ 5 (d := d_ways) rfl
  obtain ⟨fd_law_mixed, F_law_mixed⟩ := c.def_ 6 (d := d_law_mixed) rfl
  obtain ⟨fd_law_number, F_law_number⟩ := c.def_ 7 (d := d_law_number) rfl
  obtain ⟨fd_law, F_law⟩ := c.def_ 8 (d := d_law) rfl
  have g_is_number := He.glo_ok X G (c.fact 0 (f := .glo "is_number") rfl)
  have g_need_ceiling := He.glo_ok X G (c.fact 1 (f := .glo "need_ceiling") rfl)
  have g_table_of := He.glo_ok X G (c.fact 2 (f := .glo "table_of") rfl)
  have g_from_table := He.glo_ok X G (c.fact 3 (f := .glo "from_table") rfl)
  have g_counted := He.glo_ok X G (c.fact 4 (f := .glo "counted") rfl)
  have g_ways := He.glo_ok X G (c.fact 5 (f := .glo "ways") rfl)
  have g_law_mixed := He.glo_ok X G (c.fact 6 (f := .glo "_law_mixed") rfl)
  have g_law_number := He.glo_ok X G (c.fact 7 (f := .glo "_law_number") rfl)
  have g_law := He.glo_ok X G (c.fact 8 (f := .glo "law") rfl)
  have x_HillError := exc_of X G (c.fact 11 (f := .exc "HillError") rfl) (c.fact 9 (f := .glo "HillError") rfl)
  have x_NoCount := exc_of X G (c.fact 12 (f := .exc "NoCount") rfl) (c.fact 10 (f := .glo "NoCount") rfl)
  have c_MOST : Cst mg "MOST" (.int 200) := cst_int X G (c.fact 13 (f := .int "MOST" 200) rfl)
  have B : Blt mg := ⟨He.free_ok X G (c.fact 14 (f := .free "len") rfl), He.free_ok X G (c.fact 15 (f := .free "min") rfl), He.free_ok X G (c.fact 16 (f := .free "max") rfl), He.free_ok X G (c.fact 17 (f := .free "sum") rfl), He.free_ok X G (c.fact 18 (f := .free "sorted") rfl), He.free_ok X G (c.fact 19 (f := .free "isinstance") rfl), He.free_ok X G (c.fact 20 (f := .free "int") rfl), He.free_ok X G (c.fact 21 (f := .free "bool") rfl), He.free_ok X G (c.fact 22 (f := .free "str") rfl), He.free_ok X G (c.fact 23 (f := .free "list") rfl), He.free_ok X G (c.fact 24 (f := .free "tuple") rfl), He.free_ok X G (c.fact 25 (f := .free "set") rfl), He.free_ok X G (c.fact 26 (f := .free "range") rfl), He.free_ok X G (c.fact 27 (f := .free "enumerate") rfl), He.free_ok X G (c.fact 28 (f := .free "zip") rfl), He.free_ok X G (c.fact 29 (f := .free "reversed") rfl), He.free_ok X G (c.fact 30 (f := .free "ValueError") rfl)⟩
  have b_is_number : Binds K fd_is_number ps_is_number [] := FunD.bindsN F_is_number fun _ _ _ _ _ _ us hl => match us, hl with | [_, _, _], _ => rfl
  have b_need_ceiling : Binds K fd_need_ceiling ps_need_ceiling [] := FunD.bindsN F_need_ceiling fun _ _ _ _ _ _ us hl => match us, hl with | [_], _ => rfl
  have b_table_of : Binds K fd_table_of ps_table_of [] := FunD.bindsN F_table_of fun _ _ _ _ _ _ us hl => match us, hl with | [_, _], _ => rfl
  have b_from_table : Binds K fd_from_table ps_from_table [] := FunD.bindsN F_from_table fun _ _ _ _ _ _ us hl => match us, hl with | [_, _, _], _ => rfl
  have b_counted : Binds K fd_counted ps_counted [] := binds_nil (FunD.binds1 F_counted 2 1 (by intro z; cases z) rfl fun _ _ _ _ _ _ _ us its hu hi => match us, its, hu, hi with | [_, _], [_], _, _ => ⟨_, rfl, rfl⟩)
  have bd_counted : ∃ ds, Vals [.non] ds ∧ Binds K fd_counted ps_counted ds := (FunD.binds1 F_counted 1 0 (by intro z; cases z) rfl fun _ _ _ _ _ _ _ us its hu hi => match us, its, hu, hi with | [_], [_], _, _ => ⟨_, rfl, rfl⟩)
  have b_ways : Binds K fd_ways ps_ways [] := binds_nil (FunD.binds1 F_ways 3 1 (by intro z; cases z) rfl fun _ _ _ _ _ _ _ us its hu hi => match us, its, hu, hi with | [_, _, _], [_], _, _ => ⟨_, rfl, rfl⟩)
  have bd_ways : ∃ ds, Vals [.non] ds ∧ Binds K fd_ways ps_ways ds := (FunD.binds1 F_ways 2 0 (by intro z; cases z) rfl fun _ _ _ _ _ _ _ us its hu hi => match us, its, hu, hi with | [_, _], [_], _, _ => ⟨_, rfl, rfl⟩)
  have b_law_mixed : Binds K fd_law_mixed ps_law_mixed [] := FunD.bindsN F_law_mixed fun _ _ _ _ _ _ us hl => match us, hl with | [_, _], _ => rfl
  have b_law_number : Binds K fd_law_number ps_law_number [] := FunD.bindsN F_law_number fun _ _ _ _ _ _ us hl => match us, hl with | [_, _], _ => rfl
  have e := hfa.symm.trans g_law
  cases e
  have bl := FunD.bindsA (ps := ["_law_script"]) F_law fun _ _ _ _ _ _ us hl => match us, hl with | [_], _ => rfl
  refine ⟨fd_law, fun s v => bl s [v] rfl, fun base _ _ => ?_⟩
  have f_is_number := cal_of (P := P) (w := w) (base := base) (x := "is_number") (ok_is_number F_is_number B) g_is_number F_is_number.kp b_is_number
  have f_need_ceiling := cal_of (P := P) (w := w) (base := base) (x := "need_ceiling") (ok_need_ceiling F_need_ceiling f_is_number c_MOST x_NoCount) g_need_ceiling F_need_ceiling.kp b_need_ceiling
  have f_table_of := cal_of (P := P) (w := w) (base := base) (x := "table_of") (ok_table_of F_table_of B) g_table_of F_table_of.kp b_table_of
  have f_from_table := cal_of (P := P) (w := w) (base := base) (x := "from_table") (ok_from_table F_from_table B) g_from_table F_from_table.kp b_from_table
  have f_counted := cal_of (P := P) (w := w) (base := base) (x := "counted") (ok_counted F_counted f_is_number f_need_ceiling f_table_of f_from_table c_MOST x_NoCount) g_counted F_counted.kp b_counted
  have f_counted_d := cal_d (P := P) (w := w) (base := base) (x := "counted") (ok_counted F_counted f_is_number f_need_ceiling f_table_of f_from_table c_MOST x_NoCount) g_counted F_counted.kp bd_counted
  have f_ways := cal_of (P := P) (w := w) (base := base) (x := "ways") (ok_ways F_ways f_is_number f_need_ceiling f_table_of f_from_table c_MOST x_NoCount) g_ways F_ways.kp b_ways
  have f_ways_d := cal_d (P := P) (w := w) (base := base) (x := "ways") (ok_ways F_ways f_is_number f_need_ceiling f_table_of f_from_table c_MOST x_NoCount) g_ways F_ways.kp bd_ways
  have f__law_mixed := cal_of (P := P) (w := w) (base := base) (x := "_law_mixed") (ok_law_mixed F_law_mixed) g_law_mixed F_law_mixed.kp b_law_mixed
  have f__law_number := cal_of (P := P) (w := w) (base := base) (x := "_law_number") (ok_law_number F_law_number B f__law_mixed) g_law_number F_law_number.kp b_law_number
  exact noX (ok_law F_law B f__law_mixed f_counted f_ways f_ways_d) (fun _ _ _ _ z => z)
end Hl
open PySem PySem.W PySem.Calls PyProof.Rows
set_option maxHeartbeats 0 in
theorem PySem.Challenge.cw_hillrows_k03_ways_holds : PySem.Challenge.rw_hillrows_k03_ways.Holds := by
  w_on; o_law
  refine HandSHeadRun.head_any (r := OpenLaw.row PySem.Challenge.rw_hillrows_k03_ways) (q := view (OpenLaw.row PySem.Challenge.rw_hillrows_k03_ways).prog [15]) (H := Hl.hkL) (ob := Hl.obL) (M := 6000) (loose := ["HillError", "NoCount", "MOST", "is_number", "need_ceiling", "table_of", "from_table", "counted", "ways", "_law_mixed", "_law_number"]) (d := HandSHeadRun.topDef (OpenLaw.row PySem.Challenge.rw_hillrows_k03_ways).prog 15) (kwd := []) Hl.obL_eq
    (by kernel_rfl) (fun s => by kernel_rfl) Hl.runL (by kernel_rfl) (by kernel_rfl) (by kernel_rfl) (by rfl) (by first | assumption | decide +kernel) (by decide +kernel) ⟨rfl, rfl, rfl, rfl, rfl, by decide +kernel⟩ ?hw ?hc
  case hw => w_witness2
  case hc =>
    refine L2.walk_ofE (l := PySem.Challenge.rw_hillrows_k03_ways) (n := 63) (k := 4) (x := "_law_script") (CX := L2.CX0) rfl (by decide) (by kernel_rfl) ⟨rfl, by decide, by decide⟩ ?F (fun _ _ _ _ z => z)
    intro w mg fa h Y G hmg0
    obtain ⟨K, KX, c⟩ := Y
    have hmg : mg ("law" : PySem.Str) = some (.ref fa) := by
      have e : (HandSHeadRun.topDef (OpenLaw.row PySem.Challenge.rw_hillrows_k03_ways).prog 15).name = ("law" : PySem.Str) := by kernel_rfl
      rw [← e]
      exact hmg0
    obtain ⟨fd, hb, hF⟩ := Hl.facts (P := (PySem.Challenge.rw_hillrows_k03_ways).prog) (w := w) KX G hmg c.t.d c.more
    exact ⟨K, fd, Hl.spLaw K, KX, hb, fun H a ns hl _ hS => ⟨a, ns, rfl, hS, hl, fun _ => rfl⟩, hF⟩
#print axioms PySem.Challenge.cw_hillrows_k03_ways_holds
