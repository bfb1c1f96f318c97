import PyProof.Rows.All
import Wide.All
import OpenK.AllK
import Wide.FinOn
import HandS.ForMost
import HandS.ForExc
import HandS.ForDict
import HandS.IsInst
import HandS.Style
import HandS.TryMany
import HandS.Star
import HandS.Property
import HandS.Flow
import HandS.ExcInit
import HandS.ExcField
import HandS.Conv
import KE.GoesEnum
import KE.GoesMore
import HandS.TupAny
import HandS.TupMul
import HandS.SetFor
import HandS.Text
import HandS.Codes
import PySem.Challenge.RW_comesround_k06_all_but_told_numbers
set_option Elab.async false
set_option linter.all false
set_option maxRecDepth 100000
set_option maxHeartbeats 4000000
/-! glue -/
namespace G
open PySem PySem.Spec PyProof.Rows L2

/-- the built-in names stand as they are -/
structure BI (mg : Str → Option Value) : Prop where
  len : mg "len" = none
  range : mg "range" = none
  isinstance : mg "isinstance" = none
  int : mg "int" = none
  bool : mg "bool" = none
  str : mg "str" = none
  list : mg "list" = none
  tuple : mg "tuple" = none
  dict : mg "dict" = none
  set : mg "set" = none
  abs : mg "abs" = none
  sorted : mg "sorted" = none
  min : mg "min" = none
  max : mg "max" = none
  sum : mg "sum" = none
  all : mg "all" = none
  any : mg "any" = none
  enumerate : mg "enumerate" = none
  ValueError : mg "ValueError" = none

/-- a constant of the top -/
structure GC (mg : Str → Option Value) (x : Str) (v : V) : Prop where
  ex : ∃ u, mg x = some u ∧ RelV v u

/-- a def of the top that holds a promise -/
structure Has (P : Program) (w : World) (K : PySem.W.Frag) (mg : Str → Option Value) (base : Heap) (k : Nat) (x : Str) (ps : List Str) (sp : Sp) : Prop where
  ex : ∃ (f : Addr) (fd : FuncData), FnOk P w K mg base (L2.CX P w) k f fd ps sp ∧ mg x = some (.ref f) ∧ PySem.W.keepIn K (.ref f) = true ∧ Binds K fd ps []

theorem Has.mono {P : Program} {w : World} {K : PySem.W.Frag} {mg : Str → Option Value} {base : Heap} {j k : Nat} {x : Str} {ps : List Str} {sp : Sp} (h : Has P w K mg base j x ps sp) (hj : j ≤ k) : Has P w K mg base k x ps sp := by
  obtain ⟨f, fd, F, m, kp, b⟩ := h.ex
  exact ⟨f, fd, F.mono hj, m, kp, b⟩
theorem Has.imp {P : Program} {w : World} {K : PySem.W.Frag} {mg : Str → Option Value} {base : Heap} {k : Nat} {x : Str} {ps : List Str} {sp sp' : Sp} (h : Has P w K mg base k x ps sp) (hi : ∀ vs H Q E, sp' vs H Q E → sp vs H Q E) : Has P w K mg base k x ps sp' := by
  obtain ⟨f, fd, F, m, kp, b⟩ := h.ex
  exact ⟨f, fd, F.imp hi, m, kp, b⟩

section
variable {X : Cx} {k : Nat} {x : Str} {ps : List Str} {sp : Sp} {e : Expr} {es : List Expr} {t : TA} {p pos : Pos} {E : XK} {W : WX}
theorem pe_g {v : V} (h : GC X.mg x v) (hg : Gl X x := by rfl) (hd : (x == ("__debug__" : Str)) = false := by decide) : PE X (.Name x pos) (tC v) := by
  obtain ⟨u, hm, r⟩ := h.ex
  exact pe_glob hg hm r hd
/-- a call from which no exception comes -/
theorem pe_h (h : Has X.prog X.w X.K X.mg X.base k x ps sp) (hr : Room k X.A) (ha : PA X (e :: es) t) (hg : Gl X x := by rfl) (hdb : (x == ("__debug__" : Str)) = false := by decide)
    (he : starEach (e :: es) X.env = (false, eval e X.env) :: starEach es X.env := by rfl) (hpl : (backTo pos (starEach es X.env)).any (·.1) = false := by rfl) : PE X (.Call (.Name x p) (e :: es) [] pos) (tCall sp [] E0 t) := by
  obtain ⟨f, fd, F, m, kp, b⟩ := h.ex
  exact pe_call F hr hg m kp b .nil passL ha hdb he hpl
theorem pe_h0 (h : Has X.prog X.w X.K X.mg X.base k x ps sp) (hr : Room k X.A) (hg : Gl X x := by rfl) (hdb : (x == ("__debug__" : Str)) = false := by decide) : PE X (.Call (.Name x p) [] [] pos) (tCall sp [] E0 tNil) := by
  obtain ⟨f, fd, F, m, kp, b⟩ := h.ex
  exact pe_call0 F hr hg m kp b .nil passL hdb
/-- a call whose exceptions go on -/
theorem pe_hx (h : Has X.prog X.w X.K X.mg X.base k x ps sp) (hr : Room k X.A) (tk : Takes X fun cls d _ H => E cls d H) (ha : PA X (e :: es) t) (hg : Gl X x := by rfl) (hdb : (x == ("__debug__" : Str)) = false := by decide)
    (he : starEach (e :: es) X.env = (false, eval e X.env) :: starEach es X.env := by rfl) (hpl : (backTo pos (starEach es X.env)).any (·.1) = false := by rfl) : PE X (.Call (.Name x p) (e :: es) [] pos) (tCall sp [] E t) := by
  obtain ⟨f, fd, F, m, kp, b⟩ := h.ex
  exact pe_call F hr hg m kp b .nil (passes_call tk fun _ _ _ _ z => z) ha hdb he hpl
/-- a call in a try's body -/
theorem pe_hs (h : Has X.prog X.w X.K X.mg X.base k x ps sp) (hr : Room k X.A) (tk : Takes X W) (ha : PA X (e :: es) t) (hg : Gl X x := by rfl) (hdb : (x == ("__debug__" : Str)) = false := by decide)
    (he : starEach (e :: es) X.env = (false, eval e X.env) :: starEach es X.env := by rfl) (hpl : (backTo pos (starEach es X.env)).any (·.1) = false := by rfl) : PE X (.Call (.Name x p) (e :: es) [] pos) (tCallS sp (WE W) t) := by
  obtain ⟨f, fd, F, m, kp, b⟩ := h.ex
  exact pe_callS F hr hg m kp b (fun σ => passAt tk σ) ha hdb he hpl
end

section
variable {P : Program} {w : World} {K : PySem.W.Frag} {mg : Str → Option Value} {base : Heap}
/-- as Fun.okX, the body raises nothing -/
theorem okN {x qual : Str} {st : Stmt} {f : Addr} {fd : FuncData} {N ps : List Str} {k : Nat} {sp : Sp} (F : Fun K x qual st f fd) (S : FnScope N ps (defScope st)) (len : ∀ vs H Q E, sp vs H Q E → vs.length = ps.length)
    (hbody : ∀ (cdv : Value) (A : Around) (outer : List Env) (s : Shared) (H : Hp) (vs : List V) (Q : VK) (E : XK), Room k (A.deeper (envOfC qual (defScope st) s.heap.objs.size f cdv)) → sp vs H Q E →
      ∃ t, PSs (cxOf (L2.CX P w) P w K mg base N qual (defScope st) f cdv A outer s H E).nox (defBody st) t ∧ t { nx := fun _ H' => Q .non H', rt := Q } (start N vs) H) : FnOk P w K mg base (L2.CX P w) (k + 1) f fd ps sp :=
  F.okX S len fun cdv A outer s H vs Q E hr hsp => by
    obtain ⟨t, h, q⟩ := hbody cdv A outer s H vs Q E hr hsp
    exact ⟨t, h.nox, q⟩
theorem has_of {x qual : Str} {st : Stmt} {f : Addr} {fd : FuncData} {ps : List Str} {k : Nat} {sp : Sp} (F : Fun K x qual st f fd) (m : mg x = some (.ref f)) (b : Binds K fd ps []) (h : FnOk P w K mg base (L2.CX P w) k f fd ps sp) : Has P w K mg base k x ps sp := ⟨f, fd, h, m, F.kp, b⟩
end

/-! ### exceptions of one's own -/
abbrev veT : List Value := [.type "ValueError", .type "Exception", .type "BaseException", .type "object"]
/-- an own exception class without __init__ -/
structure X0 (K : PySem.W.Frag) (mg : Str → Option Value) (x : Str) (C : Addr) : Prop where
  gC : mg x = some (.ref C)
  kC : PySem.W.keepIn K (.ref C) = true
  ex : PySem.W.excIn K C veT "ValueError.__new__" = true
  sb : PySem.W.subIn K (.ref C) (.type "BaseException") = some true
  ty : PySem.W.typeIn K (.ref C) = some (.type "type")
  te : PySem.W.exmOne K (.ref C) (.ref C) = some true
theorem exm_self {K : PySem.W.Frag} {S : Addr} (h1 : PySem.W.subIn K (.ref S) (.type "BaseException") = some true) (h2 : PySem.W.isClsIn K S = true) (h3 : PySem.W.typeIn K (.ref S) = some (.type "type")) (h4 : PySem.W.subIn K (.ref S) (.ref S) = some true) :
    PySem.W.exmOne K (.ref S) (.ref S) = some true := by
  have e1 : (PySem.W.subIn K (.ref S) (.type "BaseException") == some true) = true := by rw [h1] <;> rfl
  have e2 : ((PySem.W.clsIn K S).isSome && PySem.W.typeIn K (.ref S) == some (.type "type")) = true := by
    have h2' : (PySem.W.clsIn K S).isSome = true := h2
    rw [h2', h3] <;> rfl
  show (if (PySem.W.subIn K (.ref S) (.type "BaseException") == some true) = true then (if ((PySem.W.clsIn K S).isSome && PySem.W.typeIn K (.ref S) == some (.type "type")) = true then PySem.W.subIn K (.ref S) (.ref S) else none) else none) = some true
  rw [if_pos e1, if_pos e2]
  exact h4
/-- .. of two different ones -/
theorem exm_two {K : PySem.W.Frag} {S T : Addr} {r : Bool} (h1 : PySem.W.subIn K (.ref S) (.type "BaseException") = some true) (t1 : PySem.W.subIn K (.ref T) (.type "BaseException") = some true) (h2 : PySem.W.isClsIn K T = true) (h3 : PySem.W.typeIn K (.ref T) = some (.type "type")) (h4 : PySem.W.subIn K (.ref S) (.ref T) = some r) :
    PySem.W.exmOne K (.ref S) (.ref T) = some r := by
  have e1 : (PySem.W.subIn K (.ref T) (.type "BaseException") == some true) = true := by rw [t1] <;> rfl
  have e2 : ((PySem.W.clsIn K T).isSome && PySem.W.typeIn K (.ref T) == some (.type "type")) = true := by
    have h2' : (PySem.W.clsIn K T).isSome = true := h2
    rw [h2', h3] <;> rfl
  show (if (PySem.W.subIn K (.ref T) (.type "BaseException") == some true) = true then (if ((PySem.W.clsIn K T).isSome && PySem.W.typeIn K (.ref T) == some (.type "type")) = true then PySem.W.subIn K (.ref S) (.ref T) else none) else none) = some r
  rw [if_pos e1, if_pos e2]
  exact h4
/-- C(), C an own exception class without __init__ -/
theorem pmk_x0 {X : Cx} {x : Str} {C : Addr} {p pos : Pos} (h : X0 X.K X.mg x C) (hg : Gl X x := by rfl) (hdb : (x == ("__debug__" : Str)) = false := by decide) :
    PMk X (.Call (.Name x p) [] [] pos) (fun _ H Q => Q (.ref C) none H) := by
  intro pins s σ H Q I hq
  refine wpAny_Call_Name_kw (ld_glob I hg h.gC ?_ hdb)
  refine PySem.W.callWith_K0 I.kIn h.kC ?_
  obtain ⟨bm, N, nm, qn, bs, hdct, sn, sub, ab, col, dd, k0, k1, k2, k3, k5, mN, hC, hN, hni, T⟩ := exc_obj I.kIn h.ex
  obtain ⟨hp, g, dr, tk, os⟩ := s
  refine wpAny_call_exc_subT PySem.F.excBase_ValueError T hC hN hni (fun h' e hm => ?_) (Nat.zero_le _)
  exact mk_of I hm (raises_own h.sb h.ty) hq (I.hok.gone hm.new)

/-- an own exception class whose __init__ stores its one argument at f -/
def sp_xinit (C : Addr) (f : Str) : Sp := fun vs H Q _ => ∃ (a : Addr) (y : V), vs = [.ref a, y] ∧ H a = some (exo a C none) ∧ ∀ dx, H dx = none → dx ≠ a → Q .non (upd (upd H dx (exd dx [(f, y)])) a (exo a C (some dx)))
structure X1 (P : Program) (w : World) (K : PySem.W.Frag) (mg : Str → Option Value) (base : Heap) (x f : Str) (C : Addr) : Prop where
  gC : mg x = some (.ref C)
  o : OexC K C
  xf : XfC K C
  nf : PySem.W.findIn K (.ref C) f = some none
  te : PySem.W.exmOne K (.ref C) (.ref C) = some true
  init : ∃ (fI : Addr) (fd : FuncData) (ps : List Str), PySem.W.findIn K (.ref C) "__init__" = some (some (.ref fI)) ∧ PySem.W.typeIn K (.ref fI) = some (.type "function") ∧ FnOk P w K mg base (L2.CX P w) 1 fI fd ps (sp_xinit C f) ∧ Binds K fd ps []
/-- what a raise of it with the value y brings about -/
def Xi (E : XK) (C : Addr) (f : Str) (y : V) (H : Hp) : Prop := ∀ d H', H d = none → Same H H' → H' d = some (.xd [(f, y)]) → E (.ref C) (some d) H'
def tX1 (C : Addr) (f : Str) (te : TE) : L2.St → Hp → XK → Prop := fun σ H Q => te σ H fun y H1 => Xi Q C f y H1
/-- the closure of a reading under what follows from what is wanted -/
def tM (te : TE) : TE := fun σ H Q => ∃ Q0 : VK, te σ H Q0 ∧ ∀ v H', Q0 v H' → Q v H'
theorem pe_M {X : Cx} {e : Expr} {te : TE} (h : PE X e te) : PE X e (tM te) := ⟨fun pins s σ H Q I ⟨Q0, q, i⟩ => thn (h.run pins s σ H Q0 I q) fun u s1 ⟨v, H', I', r, z⟩ => ⟨v, H', I', r, i v H' z⟩⟩
theorem xi_mk {C : Addr} {f : Str} {y : V} {H : Hp} {E : XK} (h : Xi E C f y H) : [y].length ≤ 1000 ∧ ∀ a, H a = none → sp_xinit C f (.ref a :: ([y] ++ [])) (upd H a (exo a C none))
    (fun v H2 => v = .non ∧ ∃ (d : Addr) (fs : List (Str × V)), H2 a = some (exo a C (some d)) ∧ H2 d = some (exd d fs) ∧ H d = none ∧ E (.ref C) (some d) (upd (del H2 a) d (.xd fs))) (fun _ _ _ => False) := by
  refine ⟨by show 1 ≤ 1000; decide, fun a na => ⟨a, y, rfl, upd_same, fun dx nd hne => ⟨rfl, dx, [(f, y)], upd_same, ?_, ?_, ?_⟩⟩⟩
  · rw [upd_ne hne, upd_same]
  · rw [upd_ne hne] at nd; exact nd
  · rw [upd_ne hne] at nd
    refine h dx _ nd (fun b o e => ?_) upd_same
    have n1 : b ≠ a := ne_of_none e na
    have n2 : b ≠ dx := ne_of_none e nd
    rw [upd_ne n2, del_ne n1, upd_ne n1, upd_ne n2, upd_ne n1]
    exact e
theorem pmk_x {X : Cx} {x f : Str} {C : Addr} {e : Expr} {te : TE} {p pos : Pos} (h : X1 X.prog X.w X.K X.mg X.base x f C) (hr : Room 2 X.A) (ha : PE X e te) (hg : Gl X x := by rfl) (hdb : (x == ("__debug__" : Str)) = false := by decide)
    (he : starEach [e] X.env = (false, eval e X.env) :: starEach [] X.env := by rfl) (hpl : (backTo pos (starEach [] X.env)).any (·.1) = false := by rfl) :
    PMk X (.Call (.Name x p) [e] [] pos) (tX1 C f te) := by
  obtain ⟨fI, fd, ps, iC, tI, F1, hb⟩ := h.init
  have m := pmk_oex (p := p) (pos := pos) (CX := L2.CX X.prog X.w) (k := 1) (sp := sp_xinit C f) h.o iC tI F1 hr hb .nil passL hg h.gC (pa_cons (pe_M ha) pa_nil he) hdb he hpl
  intro pins s σ H Q I q
  refine m pins s σ H Q I ?_
  exact ⟨_, q, fun v H' z => xi_mk z⟩
section
variable {P : Program} {w : World} {K : PySem.W.Frag} {mg : Str → Option Value} {base : Heap}
/-- the __init__ of such a class -/
theorem xinit_ok {C : Addr} {f : Str} {qual : Str} {st : Stmt} {fI : Addr} {fd : FuncData} (F : Fun K "__init__" qual st fI fd) (sc : FnScope [("self" : Str), f] [("self" : Str), f] (defScope st)) (o : OexC K C) (nf : PySem.W.findIn K (.ref C) f = some none)
    (hb : ∀ X : Cx, X.N = [("self" : Str), f] → X.env.scope = defScope st → PSs X (defBody st) (tOst X.K f (tVar 0) (tVar 1))) : FnOk P w K mg base (L2.CX P w) 1 fI fd [("self" : Str), f] (sp_xinit C f) := by
  refine okN F sc (fun vs H Q E h => ?_) (fun cdv A outer s H vs Q E hr h => ?_)
  · obtain ⟨a, y, rfl, _⟩ := h; rfl
  · obtain ⟨a, y, rfl, ha, k⟩ := h
    refine ⟨_, hb _ rfl rfl, ?_⟩
    exact ⟨_, rfl, _, rfl, a, C, rfl, o, nf, .inl ⟨ha, fun dx nd hne => k dx nd hne⟩⟩
end
/-- the kinds of values that are told apart here -/
inductive Kd where | non | bl | int | str | lst | tup | dic
  deriving DecidableEq
def Kd.nm : Kd → String | .non => "NoneType" | .bl => "bool" | .int => "int" | .str => "str" | .lst => "list" | .tup => "tuple" | .dic => "dict"
/-- is a value of the first kind an instance of the second -/
def Kd.is : Kd → Kd → Bool | .bl, .int => true | a, b => decide (a = b)
theorem kit7 (a b : Kd) : kitB a.nm b.nm = some (a.is b) := by
  cases a <;> cases b <;> decide +kernel
/-- the known kind of a value -/
def kd (H : Hp) : V → Option Kd
  | .non => some .non
  | .bl _ => some .bl
  | .int _ => some .int
  | .str _ => some .str
  | .ref a => match H a with
    | some (.lst _) => some .lst
    | some (.tup _) => some .tup
    | some (.dK _) => some .dic
    | _ => none
  | _ => none
theorem kd_lst {H : Hp} {a : Addr} {xs : List V} (h : H a = some (.lst xs)) : kd H (.ref a) = some .lst := by simp only [kd, h]
theorem kd_tup {H : Hp} {a : Addr} {xs : List V} (h : H a = some (.tup xs)) : kd H (.ref a) = some .tup := by simp only [kd, h]
theorem kd_dK {H : Hp} {a : Addr} {xs : List (Key × V)} (h : H a = some (.dK xs)) : kd H (.ref a) = some .dic := by simp only [kd, h]
theorem kd_same {H H' : Hp} {v : V} {k : Kd} (h : kd H v = some k) (s : Same H H') : kd H' v = some k := by
  cases v with
  | ref a =>
    simp only [kd] at h
    split at h
    · rename_i xs e; rw [kd_lst (s _ _ e)]; exact h
    · rename_i xs e; rw [kd_tup (s _ _ e)]; exact h
    · rename_i xs e; rw [kd_dK (s _ _ e)]; exact h
    · cases h
  | _ => exact h
theorem tyX_of {K : PySem.W.Frag} {H : Hp} {v : V} {T : Kd} (h : kd H v = some T) : TyX K H v (.type T.nm) := by
  cases v with
  | non => cases h; exact .base .non
  | bl b => cases h; exact .base (.bl b)
  | int i => cases h; exact .base (.int i)
  | str x => cases h; exact .base (.str x)
  | byt b => cases h
  | flt b => cases h
  | ty n => cases h
  | ref a =>
    simp only [kd] at h
    split at h
    · cases h; rename_i xs e; exact .base (.lst e)
    · cases h; rename_i xs e; exact .base (.tup e)
    · cases h; rename_i xs e; exact .base (.dK e)
    · cases h
/-- isinstance(v, T) where v's kind is known -/
theorem isi_of {K : PySem.W.Frag} {H : Hp} {v : V} {T T' : Kd} {Q : VK} (h : kd H v = some T) (q : Q (.bl (T.is T')) H) : rIsi K [v, .ty T'.nm] H Q :=
  ⟨v, .ty T'.nm, _, _, _, rfl, .ty T'.nm, tyX_of h, kit_ty (kit7 T T'), q⟩
/-- isinstance(v, (A, B)) -/
theorem isi_two {K : PySem.W.Frag} {H : Hp} {v : V} {p : Addr} {T A B : Kd} {Q : VK} (hp : H p = some (.tup [.ty A.nm, .ty B.nm])) (h : kd H v = some T) (q : Q (.bl (T.is A || T.is B)) H) : rIsiT K [v, .ref p] H Q := by
  refine ⟨v, p, _, _, [.type A.nm, .type B.nm], _, rfl, hp, .cons (.ty _) (.cons (.ty _) .nil), tyX_of h, ?_, q⟩
  refine kitAny_cons (kit_ty (kit7 T A)) (fun e => kitAny_cons (kit_ty (kit7 T B)) (fun e2 => ?_) (fun e2 => ?_)) (fun e => ?_)
  · rw [e, e2]; rfl
  · rw [e2, Bool.or_true]
  · rw [e]; rfl
end G

/-! steps through readings -/
namespace G
open PySem PySem.Spec PyProof.Rows L2
section
variable {K : PySem.W.Frag} {σ : L2.St} {H : Hp} {i : Nat} {v x y z : V} {ta tb tc te : TE} {t u : TA} {tt tt' : TT} {Q : VK} {QB : Bool → Hp → Prop} {QA : List V → Hp → Prop} {D : Ends} {s1 s2 : TS} {b : Bool} {R : Hp → Prop}
/-! expressions -/
theorem r_var (h : σ[i]? = some (some v)) (q : Q v H) : tVar i σ H Q := ⟨v, h, q⟩
theorem r_c (q : Q v H) : tC v σ H Q := q
theorem r_op {r : R2} (q : ta σ H fun x H1 => tb σ H1 fun y H2 => r x y H2 Q) : tOp r ta tb σ H Q := q
theorem r_un {r : V → Hp → VK → Prop} (q : ta σ H fun x H1 => r x H1 Q) : tUn r ta σ H Q := q
theorem r_I0 {g : Int → Int → V} {i j : Int} (q : Q (g i j) H) : rI0 g (.int i) (.int j) H Q := ⟨i, j, rfl, rfl, q⟩
theorem r_I {C : Int → Int → Prop} {g : Int → Int → V} {i j : Int} (c : C i j) (q : Q (g i j) H) : rI C g (.int i) (.int j) H Q := ⟨i, j, rfl, rfl, c, q⟩
theorem r_U {g : Int → V} {i : Int} (q : Q (g i) H) : rU g (.int i) H Q := ⟨i, rfl, q⟩
theorem r_eqI {i j : Int} (q : Q (.bl (decide (i = j))) H) : rEq (.int i) (.int j) H Q := ⟨rfl, by
  have e : decide (V.int i = V.int j) = decide (i = j) := by simp
  rw [e]; exact q⟩
theorem r_neI {i j : Int} (q : Q (.bl (!decide (i = j))) H) : rNe (.int i) (.int j) H Q := ⟨rfl, by
  have e : decide (V.int i = V.int j) = decide (i = j) := by simp
  rw [e]; exact q⟩
theorem r_eqB {i j : Bool} (q : Q (.bl (decide (i = j))) H) : rEq (.bl i) (.bl j) H Q := ⟨rfl, by
  have e : decide (V.bl i = V.bl j) = decide (i = j) := by simp
  rw [e]; exact q⟩
theorem r_neB {i j : Bool} (q : Q (.bl (!decide (i = j))) H) : rNe (.bl i) (.bl j) H Q := ⟨rfl, by
  have e : decide (V.bl i = V.bl j) = decide (i = j) := by simp
  rw [e]; exact q⟩
theorem r_eqS {i j : Str} (q : Q (.bl (decide (i = j))) H) : rEq (.str i) (.str j) H Q := ⟨rfl, by
  have e : decide (V.str i = V.str j) = decide (i = j) := by simp
  rw [e]; exact q⟩
theorem r_neS {i j : Str} (q : Q (.bl (!decide (i = j))) H) : rNe (.str i) (.str j) H Q := ⟨rfl, by
  have e : decide (V.str i = V.str j) = decide (i = j) := by simp
  rw [e]; exact q⟩
theorem r_bl {b : Bool} {P : Bool → Prop} (q : P b) : ∃ k, V.bl b = V.bl k ∧ P k := ⟨b, rfl, q⟩
theorem r_int {b : Int} {P : Int → Prop} (q : P b) : ∃ k, V.int b = V.int k ∧ P k := ⟨b, rfl, q⟩
theorem r_l1 {b : Int} {P : Int → Prop} (q : P b) : ∃ k, [V.int b] = [V.int k] ∧ P k := ⟨b, rfl, q⟩
theorem r_l2 {a b : Int} {P : Int → Int → Prop} (q : P a b) : ∃ i j, [V.int a, V.int b] = [V.int i, V.int j] ∧ P i j := ⟨a, b, rfl, q⟩
theorem r_mulR {g : Int → Int → V} {i j : Int} (h : -(2 ^ 64) < j ∧ j < 2 ^ 64) (q : Q (g i j) H) : rI CMul g (.int i) (.int j) H Q := ⟨i, j, rfl, rfl, .inr h, q⟩
theorem r_mulL {g : Int → Int → V} {i j : Int} (h : -(2 ^ 64) < i ∧ i < 2 ^ 64) (q : Q (g i j) H) : rI CMul g (.int i) (.int j) H Q := ⟨i, j, rfl, rfl, .inl h, q⟩
theorem r_fdiv {g : Int → Int → V} {i j : Int} (h : 0 < j ∧ j < 1073741824) (q : Q (g i j) H) : rI CDiv g (.int i) (.int j) H Q := ⟨i, j, rfl, rfl, h, q⟩
theorem r_mod {g : Int → Int → V} {i j : Int} (h : 0 < j) (q : Q (g i j) H) : rI (fun _ j => 0 < j) g (.int i) (.int j) H Q := ⟨i, j, rfl, rfl, h, q⟩
theorem r_pow {g : Int → Int → V} {i j : Int} (h : 0 ≤ j ∧ j ≤ 1000000 ∧ i.natAbs < 2 ^ 64) (q : Q (g i j) H) : rI CPow g (.int i) (.int j) H Q := ⟨i, j, rfl, rfl, h, q⟩
theorem r_body {X : Cx} {sts : List Stmt} {t : TS} {σ0 : L2.St} (h : PSs X sts t) (e : σ0 = σ) (q : t D σ H) : ∃ t, PSs X sts t ∧ t D σ0 H := ⟨t, h, by rw [e]; exact q⟩
theorem r_x1 {C : Addr} {f : Str} {E : XK} (q : te σ H fun y H1 => Xi E C f y H1) : tX1 C f te σ H E := q
theorem r_eqBs {b c : Bool} {P : Prop} (q : P) : scal (.bl b) (.bl c) = true ∧ P := ⟨rfl, q⟩
theorem r_isi_int {T : Kd} (h : kd H v = some T) (q : Q (.bl (T.is .int)) H) : rIsi K [v, .ty "int"] H Q := isi_of (T' := .int) h q
theorem r_isi_bool {T : Kd} (h : kd H v = some T) (q : Q (.bl (T.is .bl)) H) : rIsi K [v, .ty "bool"] H Q := isi_of (T' := .bl) h q
theorem r_isi_str {T : Kd} (h : kd H v = some T) (q : Q (.bl (T.is .str)) H) : rIsi K [v, .ty "str"] H Q := isi_of (T' := .str) h q
theorem r_isi_list {T : Kd} (h : kd H v = some T) (q : Q (.bl (T.is .lst)) H) : rIsi K [v, .ty "list"] H Q := isi_of (T' := .lst) h q
theorem r_isi_tuple {T : Kd} (h : kd H v = some T) (q : Q (.bl (T.is .tup)) H) : rIsi K [v, .ty "tuple"] H Q := isi_of (T' := .tup) h q
theorem r_isi_dict {T : Kd} (h : kd H v = some T) (q : Q (.bl (T.is .dic)) H) : rIsi K [v, .ty "dict"] H Q := isi_of (T' := .dic) h q
theorem r_iteT {b : Bool} {A B : Prop} (h : b = true) (q : A) : if b = true then A else B := by rw [h]; exact iteT q
theorem r_iteF {b : Bool} {A B : Prop} (h : b = false) (q : B) : if b = true then A else B := by rw [h]; exact iteF q
theorem iteNT {A B : Prop} (h : B) : if (!true) = true then A else B := h
theorem iteNF {A B : Prop} (h : A) : if (!false) = true then A else B := h
theorem r_start {N : List Str} {vs : List V} {σ' : L2.St} {P : L2.St → Prop} (h : L2.start N vs = σ') (q : P σ') : P (L2.start N vs) := by rw [h]; exact q
theorem r_test {t : TE} (q : t σ H fun x H' => ∃ k, x = .bl k ∧ QB k H') : tTest t σ H QB := q
theorem r_B {t : TE} (q : t σ H fun x H' => ∃ k, x = .bl k ∧ QB k H') : tB t σ H QB := q
theorem r_and (q : tt σ H fun c H1 => if c = true then tt' σ H1 QB else QB false H1) : tAnd tt tt' σ H QB := q
theorem r_or (q : tt σ H fun c H1 => if c = true then QB true H1 else tt' σ H1 QB) : tOr tt tt' σ H QB := q
theorem r_not (q : tt σ H fun c H1 => QB (!c) H1) : tNot tt σ H QB := q
theorem r_andV (q : ta σ H fun x H1 => ∃ c, x = .bl c ∧ if c = true then tb σ H1 Q else Q (.bl false) H1) : tAndV ta tb σ H Q := q
theorem r_orV (q : ta σ H fun x H1 => ∃ c, x = .bl c ∧ if c = true then Q (.bl true) H1 else tb σ H1 Q) : tOrV ta tb σ H Q := q
theorem r_notV (q : ta σ H fun x H1 => ∃ c, x = .bl c ∧ Q (.bl (!c)) H1) : tNotV ta σ H Q := q
theorem r_blIf {c : Bool} {P1 P2 : Prop} (q : if c = true then P1 else P2) : ∃ k, V.bl c = V.bl k ∧ (if k = true then P1 else P2) := ⟨c, rfl, q⟩
theorem r_ifE (q : tt σ H fun c H1 => if c = true then ta σ H1 Q else tb σ H1 Q) : tIf tt ta tb σ H Q := q
theorem r_chain {r r' : R2} (q : ta σ H fun x H1 => tb σ H1 fun y H2 => r x y H2 fun z H3 => ∃ k, z = .bl k ∧ (if k = true then tc σ H3 fun w' H4 => r' y w' H4 Q else Q (.bl false) H3)) : tChain r r' ta tb tc σ H Q := q
theorem r_nil (q : QA [] H) : tNil σ H QA := q
theorem r_cons (q : ta σ H fun x H1 => t σ H1 fun xs H2 => QA (x :: xs) H2) : tCons ta t σ H QA := q
theorem r_cb {r : List V → Hp → VK → Prop} (q : t σ H fun xs H1 => r xs H1 Q) : tCB r t σ H Q := q
theorem r_bm {T : String} {r : V → List V → Hp → VK → Prop} (q : ta σ H fun x H1 => tyV K T x H1 ∧ t σ H1 fun xs H2 => r x xs H2 Q) : tBM K T r ta t σ H Q := q
theorem r_bm0 {T : String} {r : V → List V → Hp → VK → Prop} (q : ta σ H fun x H1 => tyV K T x H1 ∧ r x [] H1 Q) : tBM0 K T r ta σ H Q := q
theorem r_tup (q : t σ H fun xs H1 => xs.length ≤ sizeLine ∧ ∀ p, H1 p = none → Q (.ref p) (upd H1 p (.tup xs))) : tTup t σ H Q := q
theorem r_lst (q : t σ H fun xs H1 => xs.length ≤ sizeLine ∧ ∀ p, H1 p = none → Q (.ref p) (upd H1 p (.lst xs))) : tLst t σ H Q := q
theorem r_new {xs : List V} {C : Prop} (hz : xs.length ≤ 100000) (k : C) : xs.length ≤ sizeLine ∧ C := ⟨Nat.le_trans hz (by decide), k⟩
theorem r_call {sp : Sp} {E : XK} (q : t σ H fun vs H1 => sp vs H1 Q E) : tCall sp [] E t σ H Q := by
  have e : (fun (vs : List V) (H1 : Hp) => sp (vs ++ []) H1 Q E) = fun vs H1 => sp vs H1 Q E := by
    funext vs H1
    rw [List.append_nil]
  show t σ H fun vs H1 => sp (vs ++ []) H1 Q E
  rw [e]
  exact q
theorem r_callS {sp : Sp} {E : L2.St → XK} (q : t σ H fun vs H1 => sp vs H1 Q (E σ)) : tCallS sp E t σ H Q := q
theorem r_slice {r : V → Option Int → Option Int → Hp → VK → Prop} {tl th : TO} (q : te σ H fun x H1 => tl σ H1 fun l H2 => th σ H2 fun u H3 => r x l u H3 Q) : tSl r te tl th σ H Q := q
theorem r_part {QO : Option Int → Hp → Prop} (q : te σ H fun x H1 => ∃ i, x = .int i ∧ QO (some i) H1) : tPart te σ H QO := q
theorem r_nopart {QO : Option Int → Hp → Prop} (q : QO none H) : tNoPart σ H QO := q
theorem r_ixL {p : Addr} {xs : List V} {i : Int} (h : SqL K H p xs) (ha : atI xs i = some v) (q : Q v H) : rIxL K (.ref p) (.int i) H Q := ⟨p, xs, i, v, rfl, rfl, h, ha, q⟩
theorem r_ixT {p : Addr} {xs : List V} {i : Int} (h : SqT K H p xs) (ha : atI xs i = some v) (q : Q v H) : rIxT K (.ref p) (.int i) H Q := ⟨p, xs, i, v, rfl, rfl, h, ha, q⟩
theorem r_intI {i : Int} {P : Int → Prop} {P2 : Bool → Prop} (q : P i) : (∃ j, [V.int i] = [V.int j] ∧ P j) ∨ ∃ k, [V.int i] = [V.bl k] ∧ P2 k := .inl ⟨i, rfl, q⟩
theorem r_intB {b : Bool} {P : Int → Prop} {P2 : Bool → Prop} (q : P2 b) : (∃ j, [V.bl b] = [V.int j] ∧ P j) ∨ ∃ k, [V.bl b] = [V.bl k] ∧ P2 k := .inr ⟨b, rfl, q⟩
/-! statements -/
theorem r_seq (q : s1 { D with nx := s2 D } σ H) : tSeq s1 s2 D σ H := q
theorem r_next (q : D.nx σ H) : tNext D σ H := q
theorem r_brk (q : D.bk σ H) : tBreak D σ H := q
theorem r_cont (q : D.ct σ H) : tCont D σ H := q
theorem r_ret (q : te σ H D.rt) : tRet te D σ H := q
theorem r_retN (q : D.rt .non H) : tRetN D σ H := q
theorem r_drop (q : te σ H fun _ H1 => D.nx σ H1) : tDrop te D σ H := q
theorem r_if (q : tt σ H fun b H1 => if b = true then s1 D σ H1 else s2 D σ H1) : tIfS tt s1 s2 D σ H := q
theorem r_asg {g : TG} (q : te σ H fun x H1 => g x σ H1 D.nx) : tAsg te g D σ H := q
theorem r_name {σ' : L2.St} {N : L2.St → Hp → Prop} (h : σ.set i (some v) = σ') (q : N σ' H) : gName i v σ H N := by subst h; exact q
theorem r_gtup {n : Nat} {a : Addr} {xs : List V} {g : TGs} {N : L2.St → Hp → Prop} (h : SqT K H a xs) (hl : xs.length = n) (q : g xs σ H N) : gTup K n g (.ref a) σ H N := ⟨a, xs, rfl, h, hl, q⟩
theorem r_gcons {g : TG} {gs : TGs} {r : List V} {N : L2.St → Hp → Prop} (q : g v σ H fun σ' H' => gs r σ' H' N) : gCons g gs (v :: r) σ H N := ⟨v, r, rfl, q⟩
theorem r_gnil {N : L2.St → Hp → Prop} (q : N σ H) : gNil [] σ H N := ⟨rfl, q⟩
theorem r_gsub {S : TSet} {N : L2.St → Hp → Prop} (q : ta σ H fun o H1 => tb σ H1 fun i H2 => S o i v H2 fun H3 => N σ H3) : gSub ta tb S v σ H N := q
theorem r_par {i j : Nat} (q : t σ H fun vs H1 => ∃ v w, vs = [v, w] ∧ D.nx ((σ.set i (some v)).set j (some w)) H1) : tPar i j t D σ H := q
theorem r_par2 {i j : Nat} {x y : V} {σ' : L2.St} {N : L2.St → Hp → Prop} (h : (σ.set i (some x)).set j (some y) = σ') (q : N σ' H) : ∃ v w, [x, y] = [v, w] ∧ N ((σ.set i (some v)).set j (some w)) H := ⟨x, y, rfl, by rw [h]; exact q⟩
theorem r_par3 {i j l : Nat} (q : t σ H fun vs H1 => ∃ u v w, vs = [u, v, w] ∧ D.nx (((σ.set i (some u)).set j (some v)).set l (some w)) H1) : tPar3 i j l t D σ H := q
theorem r_par3' {i j l : Nat} {x y z : V} {σ' : L2.St} {N : L2.St → Hp → Prop} (h : ((σ.set i (some x)).set j (some y)).set l (some z) = σ') (q : N σ' H) : ∃ u v w, [x, y, z] = [u, v, w] ∧ N (((σ.set i (some u)).set j (some v)).set l (some w)) H := ⟨x, y, z, rfl, by rw [h]; exact q⟩
theorem r_aug {f : Int → Int → Int} {a : Int} (h : σ[i]? = some (some (.int a))) (q : te σ H fun y H1 => ∃ c, y = .int c ∧ D.nx (σ.set i (some (.int (f a c)))) H1) : tAug i te (ipI f) D σ H := by
  refine ⟨.int a, h, ?_⟩
  have e : (fun (y : V) (H1 : Hp) => ipI f (.int a) y H1 fun z H2 => D.nx (σ.set i (some z)) H2) = fun y H1 => ∃ c, y = .int c ∧ D.nx (σ.set i (some (.int (f a c)))) H1 := by
    funext y H1
    apply propext
    constructor
    · rintro ⟨i', j, e1, e2, q⟩
      cases e1
      exact ⟨j, e2, q⟩
    · rintro ⟨c, e, q⟩
      exact ⟨a, c, rfl, e, q⟩
  rw [e]
  exact q
theorem r_augI {a c : Int} {f : Int → Int → Int} {σ' : L2.St} {N : L2.St → Hp → Prop} (h : σ.set i (some (.int (f a c))) = σ') (q : N σ' H) : ∃ d, V.int c = V.int d ∧ N (σ.set i (some (.int (f a d)))) H := ⟨c, rfl, by rw [h]; exact q⟩
/-! loops -/
theorem r_for {wi : TI} {g : TG} {tb : TS} (q : wi σ H fun J H1 => ∃ W : Nat → Nat → L2.St → Hp → Prop, (∃ m, W 0 m σ H1) ∧ ∀ i m σ H, W i m σ H →
  (J.stop i H ∧ D.nx σ H) ∨ (J.go i H ∧ ∃ N : L2.St → Hp → Prop, (∀ σ' H', N σ' H' → ∃ m', m' < m ∧ W (i + 1) m' σ' H') ∧ ∀ x H', J.yld i H x H' → g x σ H' fun σ2 H2 => tb { D with nx := N, ct := N, bk := D.nx } σ2 H2)) : tFor wi g tb D σ H := q
theorem r_rng1 {R : It → Hp → Prop} (q : t σ H fun vs H1 => ∃ j : Int, vs = [.int j] ∧ -(2 ^ 62) ≤ j ∧ j < 2 ^ 62 ∧ R (Itr 0 j.toNat) H1) : iRng1 t σ H R := q
theorem r_rng2 {R : It → Hp → Prop} (q : t σ H fun vs H1 => ∃ i j : Int, vs = [.int i, .int j] ∧ (-(2 ^ 62) ≤ i ∧ i < 2 ^ 62 ∧ -(2 ^ 62) ≤ j ∧ j < 2 ^ 62) ∧ R (Itr i (j - i).toNat) H1) : iRng2 t σ H R := q
theorem r_iL {R : It → Hp → Prop} (q : te σ H fun x H1 => ∃ a, x = .ref a ∧ (∃ xs, SqL K H1 a xs) ∧ R (Itl K a) H1) : iList K te σ H R := q
theorem r_iT {R : It → Hp → Prop} (q : te σ H fun x H1 => ∃ a, x = .ref a ∧ (∃ xs, SqT K H1 a xs) ∧ R (Itt K a) H1) : iTup K te σ H R := q
theorem e_forR1 {z : Int} {n : Nat} {g : TG} {tb : TS} (hz : z = (n : Int)) (hn : n ≤ 1000000000) (Pv : Nat → L2.St → Hp → Prop) (h0 : Pv 0 σ H)
    (hs : ∀ i σ H, i < n → Pv i σ H → g (.int (i : Int)) σ H fun σ2 H2 => tb { D with nx := Pv (i + 1), ct := Pv (i + 1), bk := D.nx } σ2 H2) (hd : ∀ σ H, Pv n σ H → D.nx σ H) :
    ∃ j : Int, [V.int z] = [V.int j] ∧ -(2 ^ 62) ≤ j ∧ j < 2 ^ 62 ∧ ∃ W : Nat → Nat → L2.St → Hp → Prop, (∃ m, W 0 m σ H) ∧ ∀ i m σ H, W i m σ H →
      ((Itr 0 j.toNat).stop i H ∧ D.nx σ H) ∨ ((Itr 0 j.toNat).go i H ∧ ∃ N : L2.St → Hp → Prop, (∀ σ' H', N σ' H' → ∃ m', m' < m ∧ W (i + 1) m' σ' H') ∧ ∀ x H', (Itr 0 j.toNat).yld i H x H' → g x σ H' fun σ2 H2 => tb { D with nx := N, ct := N, bk := D.nx } σ2 H2) := by
  subst hz
  refine ⟨(n : Int), rfl, by omega, by omega, ?_⟩
  rw [Int.toNat_natCast]
  refine for_range (lo := 0) (n := n) Pv h0 (fun i σ H hi p => ?_) hd
  rw [Int.zero_add]
  exact hs i σ H hi p
theorem e_forR2 {y z : Int} {lo n : Nat} {g : TG} {tb : TS} (hy : y = (lo : Int)) (hz : z = ((lo + n : Nat) : Int) ∨ (n = 0 ∧ z ≤ y ∧ -(2 ^ 62) ≤ z)) (hn : lo + n ≤ 1000000000) (Pv : Nat → L2.St → Hp → Prop) (h0 : Pv 0 σ H)
    (hs : ∀ i σ H, i < n → Pv i σ H → g (.int ((lo + i : Nat) : Int)) σ H fun σ2 H2 => tb { D with nx := Pv (i + 1), ct := Pv (i + 1), bk := D.nx } σ2 H2) (hd : ∀ σ H, Pv n σ H → D.nx σ H) :
    ∃ i' j : Int, [V.int y, V.int z] = [V.int i', V.int j] ∧ (-(2 ^ 62) ≤ i' ∧ i' < 2 ^ 62 ∧ -(2 ^ 62) ≤ j ∧ j < 2 ^ 62) ∧ ∃ W : Nat → Nat → L2.St → Hp → Prop, (∃ m, W 0 m σ H) ∧ ∀ i m σ H, W i m σ H →
      ((Itr i' (j - i').toNat).stop i H ∧ D.nx σ H) ∨ ((Itr i' (j - i').toNat).go i H ∧ ∃ N : L2.St → Hp → Prop, (∀ σ' H', N σ' H' → ∃ m', m' < m ∧ W (i + 1) m' σ' H') ∧ ∀ x H', (Itr i' (j - i').toNat).yld i H x H' → g x σ H' fun σ2 H2 => tb { D with nx := N, ct := N, bk := D.nx } σ2 H2) := by
  subst hy
  refine ⟨(lo : Int), z, rfl, ⟨by omega, by omega, by omega, by omega⟩, ?_⟩
  have e : (z - (lo : Int)).toNat = n := by omega
  rw [e]
  refine for_range (lo := (lo : Int)) (n := n) Pv h0 (fun i σ H hi p => ?_) hd
  have e2 : (lo : Int) + (i : Int) = ((lo + i : Nat) : Int) := by omega
  rw [e2]
  exact hs i σ H hi p
theorem e_forL {a : Addr} {xs : List V} {g : TG} {tb : TS} (Pv : Nat → L2.St → Hp → Prop) (hx : SqL K H a xs) (h0 : Pv 0 σ H) (hl : ∀ i σ H, i ≤ xs.length → Pv i σ H → SqL K H a xs)
    (hs : ∀ i x σ H, xs[i]? = some x → Pv i σ H → g x σ H fun σ2 H2 => tb { D with nx := Pv (i + 1), ct := Pv (i + 1), bk := D.nx } σ2 H2) (hd : ∀ σ H, Pv xs.length σ H → D.nx σ H) :
    ∃ b, V.ref a = V.ref b ∧ (∃ xs, SqL K H b xs) ∧ ∃ W : Nat → Nat → L2.St → Hp → Prop, (∃ m, W 0 m σ H) ∧ ∀ i m σ H, W i m σ H →
      ((Itl K b).stop i H ∧ D.nx σ H) ∨ ((Itl K b).go i H ∧ ∃ N : L2.St → Hp → Prop, (∀ σ' H', N σ' H' → ∃ m', m' < m ∧ W (i + 1) m' σ' H') ∧ ∀ x H', (Itl K b).yld i H x H' → g x σ H' fun σ2 H2 => tb { D with nx := N, ct := N, bk := D.nx } σ2 H2) :=
  ⟨a, rfl, ⟨xs, hx⟩, for_list Pv h0 hl hs hd⟩
theorem e_forT {a : Addr} {xs : List V} {g : TG} {tb : TS} (Pv : Nat → L2.St → Hp → Prop) (hx : SqT K H a xs) (h0 : Pv 0 σ H) (hl : ∀ i σ H, i ≤ xs.length → Pv i σ H → SqT K H a xs)
    (hs : ∀ i x σ H, xs[i]? = some x → Pv i σ H → g x σ H fun σ2 H2 => tb { D with nx := Pv (i + 1), ct := Pv (i + 1), bk := D.nx } σ2 H2) (hd : ∀ σ H, Pv xs.length σ H → D.nx σ H) :
    ∃ b, V.ref a = V.ref b ∧ (∃ xs, SqT K H b xs) ∧ ∃ W : Nat → Nat → L2.St → Hp → Prop, (∃ m, W 0 m σ H) ∧ ∀ i m σ H, W i m σ H →
      ((Itt K b).stop i H ∧ D.nx σ H) ∨ ((Itt K b).go i H ∧ ∃ N : L2.St → Hp → Prop, (∀ σ' H', N σ' H' → ∃ m', m' < m ∧ W (i + 1) m' σ' H') ∧ ∀ x H', (Itt K b).yld i H x H' → g x σ H' fun σ2 H2 => tb { D with nx := N, ct := N, bk := D.nx } σ2 H2) :=
  ⟨a, rfl, ⟨xs, hx⟩, for_tup Pv h0 hl hs hd⟩
/-- while: W holds with what is left; from it the test is read, the body goes on to less -/
theorem r_while {c : TT} {tb : TS} (W : Nat → L2.St → Hp → Prop) (m0 : Nat) (h0 : W m0 σ H)
    (hs : ∀ m σ' H', W m σ' H' → c σ' H' fun b H1 => if b = true then ∃ N : L2.St → Hp → Prop, (∀ σ2 H2, N σ2 H2 → ∃ m', m' < m ∧ W m' σ2 H2) ∧ tb { D with nx := N, ct := N, bk := D.nx } σ' H1 else D.nx σ' H1) : tWhile c tb D σ H :=
  ⟨W, ⟨m0, h0⟩, hs⟩
/-! comprehensions -/
theorem r_lc {wi : TI} {g : TG} {te : TE} {vs : List Nat} (q : wi σ H fun J H1 => ∀ D, H1 D = none → ∃ W : Nat → Nat → Hp → Prop, (∃ m, W 0 m (upd H1 D (.lst []))) ∧ ∀ i m H, W i m H →
  (J.stop i H ∧ Q (.ref D) H) ∨ (J.go i H ∧ ∃ Nx : Hp → Prop, (∀ H', Nx H' → ∃ m', m' < m ∧ W (i + 1) m' H') ∧ ∀ x H', J.yld i H x H' → g x (wipe σ vs) H' fun σ2 H2 => wipe σ2 vs = wipe σ vs ∧ tt σ2 H2 fun b H3 =>
    if b = true then te σ2 H3 fun y H4 => ∃ acc, H4 D = some (.lst acc) ∧ acc.length < sizeLine ∧ Nx (upd H4 D (.lst (acc ++ [y]))) else Nx H3)) : tLc wi g tt te vs σ H Q := q
theorem r_yes (q : QB true H) : tYes σ H QB := q
end
/-- what is tracked stays tracked as it was, but at d -/
def Keep (d : Addr) (H H' : Hp) : Prop := ∀ b o, b ≠ d → H b = some o → H' b = some o
theorem Keep.trans {d : Addr} {H H1 H2 : Hp} (a : Keep d H H1) (b : Keep d H1 H2) : Keep d H H2 := fun x o n h => b x o n (a x o n h)
theorem Keep.refl (d : Addr) (H : Hp) : Keep d H H := fun _ _ _ h => h
theorem _root_.L2.Same.keep {d : Addr} {H H' : Hp} (s : Same H H') : Keep d H H' := fun b o _ h => s b o h
theorem Keep.fresh {d : Addr} {H H' : Hp} (k : Keep d H H') {l : Addr} (h : H' l = none) (hd : ∃ o, H' d = some o) : H l = none := by
  cases q : H l with
  | none => rfl
  | some o =>
    by_cases e : l = d
    · obtain ⟨o', ho⟩ := hd
      rw [e, ho] at h
      cases h
    · rw [k l o e q] at h
      cases h
theorem same_new {H : Hp} {p : Addr} {o : HO} (h : H p = none) : Same H (upd H p o) := fun b x e => by
  rw [upd_ne (ne_of_none e h)]
  exact e
theorem same_mut {H H' : Hp} {p : Addr} {o : HO} (s : Same H H') (h : H p = none) : Same H (upd H' p o) := fun b x e => by
  rw [upd_ne (ne_of_none e h)]
  exact s b x e
theorem keep_mut {d : Addr} {H H' : Hp} {o : HO} (s : Keep d H H') : Keep d H (upd H' d o) := fun b x n e => by
  rw [upd_ne n]
  exact s b x n e
theorem keep_new {d p : Addr} {H H' : Hp} {o : HO} (s : Keep d H H') (hp : H p = none) : Keep d H (upd H' p o) := fun b x n e => by
  rw [upd_ne (ne_of_none e hp)]
  exact s b x n e
section
variable {K : PySem.W.Frag} {H H' : Hp}
theorem _root_.L2.Same.sqL {a : Addr} {xs : List V} (e : Same H H') (h : SqL K H a xs) : SqL K H' a xs := e.seq h
theorem _root_.L2.Same.sqT {a : Addr} {xs : List V} (e : Same H H') (h : SqT K H a xs) : SqT K H' a xs := by
  rcases h with (h | ⟨o, h⟩) | h
  · exact .inl (.inl (e _ _ h))
  · exact .inl (.inr ⟨o, e _ _ h⟩)
  · exact .inr h
mutual
theorem _root_.L2.Same.dp (e : Same H H') : ∀ {v : V} {d : PyData}, Dp K H v d → Dp K H' v d
  | _, _, .non => .non
  | _, _, .bl b => .bl b
  | _, _, .int i => .int i
  | _, _, .str x => .str x
  | _, _, .lst h1 h2 => .lst (e.sqL h1) (L2.Same.dpAll e h2)
  | _, _, .tup h1 h2 => .tup (e.sqT h1) (L2.Same.dpAll e h2)
theorem _root_.L2.Same.dpAll (e : Same H H') : ∀ {vs : List V} {ds : List PyData}, DpAll K H vs ds → DpAll K H' vs ds
  | _, _, .nil => .nil
  | _, _, .cons h1 h2 => .cons (L2.Same.dp e h1) (L2.Same.dpAll e h2)
end
end
section
variable {K : PySem.W.Frag} {σ : L2.St} {H : Hp} {te : TE} {tt : TT} {Q : VK} {g : TG} {vs : List Nat}
/-- what a comprehension's turns leave: the source's heap H1 kept, the list so far at Dl -/
def LcI (H1 : Hp) (Dl : Addr) (ys : List V) (H' : Hp) : Prop := H1 Dl = none ∧ Same H1 H' ∧ H' Dl = some (.lst ys)
/-- a turn whose test and element are told from H1 on: b and y, the heaps only grow -/
theorem lc_turn {σ2 : L2.St} {H1 H' : Hp} {Dl : Addr} {ys : List V} {b : Bool} {y : V} (h : LcI H1 Dl ys H') (hz : ys.length < 100000) {N : Hp → Prop}
    (ht : ∀ H', Same H1 H' → ∀ QB : Bool → Hp → Prop, (∀ H2, Same H' H2 → QB b H2) → tt σ2 H' QB)
    (he : b = true → ∀ H', Same H1 H' → ∀ Q : VK, (∀ H2, Same H' H2 → Q y H2) → te σ2 H' Q)
    (hN : ∀ H2, LcI H1 Dl (if b = true then ys ++ [y] else ys) H2 → N H2) :
    tt σ2 H' fun c H3 => if c = true then te σ2 H3 fun y H4 => ∃ acc, H4 Dl = some (.lst acc) ∧ acc.length < sizeLine ∧ N (upd H4 Dl (.lst (acc ++ [y]))) else N H3 := by
  obtain ⟨h1, h2, h3⟩ := h
  refine ht H' h2 _ fun H2 s2 => ?_
  cases b with
  | true =>
    refine iteT ?_
    refine he rfl H2 (h2.trans s2) _ fun H4 s4 => ?_
    refine ⟨ys, s4 _ _ (s2 _ _ h3), Nat.lt_of_lt_of_le hz (by decide), hN _ ⟨h1, same_mut ((h2.trans s2).trans s4) h1, upd_same⟩⟩
  | false =>
    refine iteF ?_
    exact hN _ ⟨h1, h2.trans s2, s2 _ _ h3⟩
end
/-- the items at the places where f holds -/
def sel (n : Nat) (f : Nat → Bool) (v : Nat → V) : List V := ((List.range n).filter f).map v
theorem sel_zero (f : Nat → Bool) (v : Nat → V) : sel 0 f v = [] := rfl
theorem sel_succ (n : Nat) (f : Nat → Bool) (v : Nat → V) : sel (n + 1) f v = if f n = true then sel n f v ++ [v n] else sel n f v := by
  unfold sel
  rw [List.range_succ, List.filter_append, List.map_append]
  by_cases h : f n = true
  · rw [if_pos h, List.filter_cons, if_pos h]; rfl
  · rw [if_neg h, List.filter_cons, if_neg h]; exact List.append_nil _
theorem sel_length (n : Nat) (f : Nat → Bool) (v : Nat → V) : (sel n f v).length ≤ n := by
  unfold sel
  rw [List.length_map]
  have h := List.length_filter_le f (List.range n)
  rwa [List.length_range] at h
section
variable {K : PySem.W.Frag} {σ : L2.St} {H : Hp} {te : TE} {tt : TT} {Q : VK} {vs : List Nat} {j : Nat}
/-- [elt for x in range(n) if ..], told by f and v at the heap ahead -/
theorem e_lcR1 {R : Addr → Hp → Prop} {z : Int} {n : Nat} (hz : z = (n : Int)) (hn : n < 100000) (f : Nat → Bool) (v : Nat → V) (hw : ∀ x, wipe ((wipe σ vs).set j (some x)) vs = wipe σ vs)
    (ht : ∀ i H', i < n → Same H H' → ∀ QB : Bool → Hp → Prop, (∀ H2, Same H' H2 → QB (f i) H2) → tt ((wipe σ vs).set j (some (.int (i : Int)))) H' QB)
    (he : ∀ i H', i < n → f i = true → Same H H' → ∀ Q : VK, (∀ H2, Same H' H2 → Q (v i) H2) → te ((wipe σ vs).set j (some (.int (i : Int)))) H' Q)
    (hq : ∀ p H', H p = none → Same H H' → H' p = some (.lst (sel n f v)) → R p H') :
    ∃ m : Int, [V.int z] = [V.int m] ∧ -(2 ^ 62) ≤ m ∧ m < 2 ^ 62 ∧ ∀ Dl, H Dl = none → ∃ W : Nat → Nat → Hp → Prop, (∃ k, W 0 k (upd H Dl (.lst []))) ∧ ∀ i k H, W i k H →
      ((Itr 0 m.toNat).stop i H ∧ R Dl H) ∨ ((Itr 0 m.toNat).go i H ∧ ∃ Nx : Hp → Prop, (∀ H', Nx H' → ∃ m', m' < k ∧ W (i + 1) m' H') ∧ ∀ x H', (Itr 0 m.toNat).yld i H x H' → gName j x (wipe σ vs) H' fun σ2 H2 => wipe σ2 vs = wipe σ vs ∧ tt σ2 H2 fun b H3 =>
        if b = true then te σ2 H3 fun y H4 => ∃ acc, H4 Dl = some (.lst acc) ∧ acc.length < sizeLine ∧ Nx (upd H4 Dl (.lst (acc ++ [y]))) else Nx H3) := by
  subst hz
  refine ⟨(n : Int), rfl, by omega, by omega, fun Dl hD => ?_⟩
  rw [Int.toNat_natCast]
  refine lc_range (lo := 0) (n := n) (fun i H' => LcI H Dl (sel i f v) H') ⟨hD, same_new hD, upd_same⟩ (fun i H' hi p => ?_) (fun H' p => hq Dl H' p.1 p.2.1 p.2.2)
  rw [Int.zero_add]
  refine ⟨hw _, ?_⟩
  refine lc_turn (b := f i) (y := v i) p (Nat.lt_of_le_of_lt (sel_length i f v) (by omega)) (fun H' s QB q => ht i H' hi s QB q) (fun e H' s Q q => he i H' hi e s Q q) fun H2 h2 => ?_
  rw [sel_succ]
  exact h2
theorem e_lcR2 {R : Addr → Hp → Prop} {y z : Int} {lo n : Nat} (hy : y = (lo : Int)) (hz : z = ((lo + n : Nat) : Int) ∨ (n = 0 ∧ z ≤ y ∧ -(2 ^ 62) ≤ z)) (hn : lo + n < 100000) (f : Nat → Bool) (v : Nat → V) (hw : ∀ x, wipe ((wipe σ vs).set j (some x)) vs = wipe σ vs)
    (ht : ∀ i H', i < n → Same H H' → ∀ QB : Bool → Hp → Prop, (∀ H2, Same H' H2 → QB (f i) H2) → tt ((wipe σ vs).set j (some (.int ((lo + i : Nat) : Int)))) H' QB)
    (he : ∀ i H', i < n → f i = true → Same H H' → ∀ Q : VK, (∀ H2, Same H' H2 → Q (v i) H2) → te ((wipe σ vs).set j (some (.int ((lo + i : Nat) : Int)))) H' Q)
    (hq : ∀ p H', H p = none → Same H H' → H' p = some (.lst (sel n f v)) → R p H') :
    ∃ i' m : Int, [V.int y, V.int z] = [V.int i', V.int m] ∧ (-(2 ^ 62) ≤ i' ∧ i' < 2 ^ 62 ∧ -(2 ^ 62) ≤ m ∧ m < 2 ^ 62) ∧ ∀ Dl, H Dl = none → ∃ W : Nat → Nat → Hp → Prop, (∃ k, W 0 k (upd H Dl (.lst []))) ∧ ∀ i k H, W i k H →
      ((Itr i' (m - i').toNat).stop i H ∧ R Dl H) ∨ ((Itr i' (m - i').toNat).go i H ∧ ∃ Nx : Hp → Prop, (∀ H', Nx H' → ∃ m', m' < k ∧ W (i + 1) m' H') ∧ ∀ x H', (Itr i' (m - i').toNat).yld i H x H' → gName j x (wipe σ vs) H' fun σ2 H2 => wipe σ2 vs = wipe σ vs ∧ tt σ2 H2 fun b H3 =>
        if b = true then te σ2 H3 fun y H4 => ∃ acc, H4 Dl = some (.lst acc) ∧ acc.length < sizeLine ∧ Nx (upd H4 Dl (.lst (acc ++ [y]))) else Nx H3) := by
  subst hy
  refine ⟨(lo : Int), z, rfl, ⟨by omega, by omega, by omega, by omega⟩, fun Dl hD => ?_⟩
  have e : (z - (lo : Int)).toNat = n := by omega
  rw [e]
  refine lc_range (lo := (lo : Int)) (n := n) (fun i H' => LcI H Dl (sel i f v) H') ⟨hD, same_new hD, upd_same⟩ (fun i H' hi p => ?_) (fun H' p => hq Dl H' p.1 p.2.1 p.2.2)
  have e2 : (lo : Int) + (i : Int) = ((lo + i : Nat) : Int) := by omega
  rw [e2]
  refine ⟨hw _, ?_⟩
  refine lc_turn (b := f i) (y := v i) p (Nat.lt_of_le_of_lt (sel_length i f v) (by omega)) (fun H' s QB q => ht i H' hi s QB q) (fun e H' s Q q => he i H' hi e s Q q) fun H2 h2 => ?_
  rw [sel_succ]
  exact h2
theorem e_lcL {R : Addr → Hp → Prop} {a : Addr} {xs : List V} (hx : SqL K H a xs) (hn : xs.length < 100000) (f : Nat → Bool) (v : Nat → V) (hw : ∀ x, wipe ((wipe σ vs).set j (some x)) vs = wipe σ vs)
    (ht : ∀ i x H', xs[i]? = some x → Same H H' → ∀ QB : Bool → Hp → Prop, (∀ H2, Same H' H2 → QB (f i) H2) → tt ((wipe σ vs).set j (some x)) H' QB)
    (he : ∀ i x H', xs[i]? = some x → f i = true → Same H H' → ∀ Q : VK, (∀ H2, Same H' H2 → Q (v i) H2) → te ((wipe σ vs).set j (some x)) H' Q)
    (hq : ∀ p H', H p = none → Same H H' → H' p = some (.lst (sel xs.length f v)) → R p H') :
    ∃ b, V.ref a = V.ref b ∧ (∃ xs, SqL K H b xs) ∧ ∀ Dl, H Dl = none → ∃ W : Nat → Nat → Hp → Prop, (∃ k, W 0 k (upd H Dl (.lst []))) ∧ ∀ i k H, W i k H →
      ((Itl K b).stop i H ∧ R Dl H) ∨ ((Itl K b).go i H ∧ ∃ Nx : Hp → Prop, (∀ H', Nx H' → ∃ m', m' < k ∧ W (i + 1) m' H') ∧ ∀ x H', (Itl K b).yld i H x H' → gName j x (wipe σ vs) H' fun σ2 H2 => wipe σ2 vs = wipe σ vs ∧ tt σ2 H2 fun b H3 =>
        if b = true then te σ2 H3 fun y H4 => ∃ acc, H4 Dl = some (.lst acc) ∧ acc.length < sizeLine ∧ Nx (upd H4 Dl (.lst (acc ++ [y]))) else Nx H3) := by
  refine ⟨a, rfl, ⟨xs, hx⟩, fun Dl hD => ?_⟩
  refine lc_list (xs := xs) (fun i H' => LcI H Dl (sel i f v) H') ⟨hD, same_new hD, upd_same⟩ (fun i H' _ p => p.2.1.sqL hx) (fun i x H' hi p => ?_) (fun H' p => hq Dl H' p.1 p.2.1 p.2.2)
  refine ⟨hw _, ?_⟩
  have hlt := (List.getElem?_eq_some_iff.mp hi).1
  refine lc_turn (b := f i) (y := v i) p (Nat.lt_of_le_of_lt (sel_length i f v) (by omega)) (fun H' s QB q => ht i x H' hi s QB q) (fun e H' s Q q => he i x H' hi e s Q q) fun H2 h2 => ?_
  rw [sel_succ]
  exact h2
theorem e_lcT {R : Addr → Hp → Prop} {a : Addr} {xs : List V} (hx : SqT K H a xs) (hn : xs.length < 100000) (f : Nat → Bool) (v : Nat → V) (hw : ∀ x, wipe ((wipe σ vs).set j (some x)) vs = wipe σ vs)
    (ht : ∀ i x H', xs[i]? = some x → Same H H' → ∀ QB : Bool → Hp → Prop, (∀ H2, Same H' H2 → QB (f i) H2) → tt ((wipe σ vs).set j (some x)) H' QB)
    (he : ∀ i x H', xs[i]? = some x → f i = true → Same H H' → ∀ Q : VK, (∀ H2, Same H' H2 → Q (v i) H2) → te ((wipe σ vs).set j (some x)) H' Q)
    (hq : ∀ p H', H p = none → Same H H' → H' p = some (.lst (sel xs.length f v)) → R p H') :
    ∃ b, V.ref a = V.ref b ∧ (∃ xs, SqT K H b xs) ∧ ∀ Dl, H Dl = none → ∃ W : Nat → Nat → Hp → Prop, (∃ k, W 0 k (upd H Dl (.lst []))) ∧ ∀ i k H, W i k H →
      ((Itt K b).stop i H ∧ R Dl H) ∨ ((Itt K b).go i H ∧ ∃ Nx : Hp → Prop, (∀ H', Nx H' → ∃ m', m' < k ∧ W (i + 1) m' H') ∧ ∀ x H', (Itt K b).yld i H x H' → gName j x (wipe σ vs) H' fun σ2 H2 => wipe σ2 vs = wipe σ vs ∧ tt σ2 H2 fun b H3 =>
        if b = true then te σ2 H3 fun y H4 => ∃ acc, H4 Dl = some (.lst acc) ∧ acc.length < sizeLine ∧ Nx (upd H4 Dl (.lst (acc ++ [y]))) else Nx H3) := by
  refine ⟨a, rfl, ⟨xs, hx⟩, fun Dl hD => ?_⟩
  refine lc_tup (xs := xs) (fun i H' => LcI H Dl (sel i f v) H') ⟨hD, same_new hD, upd_same⟩ (fun i H' _ p => p.2.1.sqT hx) (fun i x H' hi p => ?_) (fun H' p => hq Dl H' p.1 p.2.1 p.2.2)
  refine ⟨hw _, ?_⟩
  have hlt := (List.getElem?_eq_some_iff.mp hi).1
  refine lc_turn (b := f i) (y := v i) p (Nat.lt_of_le_of_lt (sel_length i f v) (by omega)) (fun H' s QB q => ht i x H' hi s QB q) (fun e H' s Q q => he i x H' hi e s Q q) fun H2 h2 => ?_
  rw [sel_succ]
  exact h2
end
end G

/-! enumerate(tuple) -/
namespace PySem
namespace EnumTX
open AutoSeq1 (wpAny_loadPart')
theorem meets_new {v : Value} {o : Obj} {H : Heap → Prop} (B : Begins v o H) :
    Meets (Builtin.«enumerate.__new__» ⟨[.type "enumerate", v], []⟩) (fun _ R s => H s.heap ∧
      R (.ok (.ret (.ref (s.heap.push o).objs.size))) { s with heap := (s.heap.push o).push { cls := .type "enumerate", data := .fields #[.none, .bool false, .ref s.heap.objs.size, rawInt 0, .none, .none] } }) :=
  .of_wp fun prog w A R s h => by
    obtain ⟨hp, g, d, tk, os⟩ := s; obtain ⟨h1, h⟩ := h
    have hsub := sub_enumerate
    have q1 : ∀ {A' : Around} {E : Value → Shared → Prop} {Q : Value → Shared → Prop}, Q (.ref hp.objs.size) ⟨hp.push o, g, d, tk, os⟩ → wpAny (model prog w) A' (pyIter v) Q E ⟨hp, g, d, tk, os⟩ :=
      fun q => B.iter prog w _ _ ⟨hp, g, d, tk, os⟩ _ h1 q
    wp_walk using q1
    refine wpAny_stack_any fun st => wpAny_pure ?_
    split
    · rename_i c _ _ _ _ _
      cases (c == Value.type "enumerate")
      · wp_walk using q1
        exact ⟨_, rfl, h⟩
      · wp_walk using q1
        exact ⟨_, rfl, h⟩
    · wp_walk using q1
      exact ⟨_, rfl, h⟩
section
variable {prog : Program} {w : World} {A : Around} {E : Value → Shared → Prop} {s : Shared}
theorem enum_begins1 {v : Value} {o : Obj} {H : Heap → Prop} {Q : Value → Shared → Prop} (B : Begins v o H) (h1 : H s.heap)
    (h : ∀ h', IsEnum h' (s.heap.objs.size + 1) s.heap.objs.size 0 .none → h'.get? s.heap.objs.size = some o → h'.objs.size = s.heap.objs.size + 2 →
      (∀ b o, s.heap.get? b = some o → h'.get? b = some o) → Q (.ref (s.heap.objs.size + 1)) { s with heap := h' }) :
    wpAny (model prog w) A (call (.type "enumerate") [v]) Q E s := by
  refine callType_new F.called_enumerate (by decide) (F.typeCall_enumerate_1 _) (F.newCall_enumerate_1 _) (fun obj => F.args_object_init_2 obj _) F.entry_enumerate_new
    (meets_new B) ⟨h1, ?_⟩
  have hz : (s.heap.push o).objs.size = s.heap.objs.size + 1 := Heap.size_push ..
  show _ ∧ _
  rw [hz]
  have he : IsEnum ((s.heap.push o).push { cls := .type "enumerate", data := .fields #[.none, .bool false, .ref s.heap.objs.size, rawInt 0, .none, .none] }) (s.heap.objs.size + 1) s.heap.objs.size 0 .none := by
    have := Heap.get?_push_size (s.heap.push o) (o := { cls := .type "enumerate", data := .fields #[.none, .bool false, .ref s.heap.objs.size, rawInt 0, .none, .none] }) rfl
    rw [hz] at this; exact this
  refine ⟨⟨_, he, rfl⟩, h _ he (Heap.get?_push_of_some _ (Heap.get?_push_size _ B.free)) (by rw [Heap.size_push, hz]) fun b o x => Heap.get?_push_of_some _ (Heap.get?_push_of_some _ x)⟩
theorem enum_endT {e it t : Addr} {i : Nat} {j : Int} {items : Array Value} {old : Value} {Q : Option Value → Shared → Prop} (hh : A.in1.handled = none)
    (he : IsEnum s.heap e it j old) (hit : s.heap.IsTupleIter it t i) (ht : s.heap.IsTuple t items) (hx : items[i]? = none)
    (hQ : ∀ h', Heap.ExtBut it s.heap h' → Q none { s with heap := h' }) : wpAny (model prog w) A (pyNext (.ref e)) Q E s := by
  have hT : s.TypeIs (.ref e) "enumerate" := ⟨_, he, rfl⟩
  unfold pyNext
  refine wpAny_bind (wpAny_attempt (wpAny_callSpecial?_slot (name := Str.ofString "__next__") hT F.slot_enumerate_next
    (wpAny_call_entry F.slot_enumerate_next hT F.entry_enumerate_next ?_ (F.args_enumerate_next_1 _))))
  show wpAny _ _ (field (.ref e) 2 >>= _) _ _ _
  refine wpAny_bind (wpAny_field he rfl (x := .ref it) rfl ?_)
  refine wpAny_bind (wpAny_nextOf_tuple_end hh hit ht hx fun h' x he' hx' => ?_)
  obtain ⟨o, ho, hc⟩ := hx'
  refine wpAny_bind (wpAny_isInstance (T := "StopIteration") (b := true) ⟨o, ho, hc⟩ isSubtype_stop ?_)
  exact wpAny_pure (hQ _ he')
end
end EnumTX
end PySem
namespace G
open PySem PySem.Spec PyProof.Rows L2
/-- the tuple at a, each item in a new pair -/
def IteT (K : PySem.W.Frag) (a : Addr) : It :=
  ⟨fun i H => ∃ (xs : List V) (x : V), SqT K H a xs ∧ xs[i]? = some x, fun i H v H' => ∃ T x, v = .ref T ∧ H T = none ∧ H' = upd H T (.tup [.int (i : Nat), x]) ∧ ∀ xs, SqT K H a xs → xs[i]? = some x, fun i H => ∃ xs : List V, SqT K H a xs ∧ xs.length ≤ i⟩
theorem tupIter_ne {h : Heap} {a it : Addr} {i : Nat} {its : Array Value} (x : h.IsTupleIter it a i) (y : h.IsTuple a its) : a ≠ it := by
  rintro rfl
  obtain ⟨o, e, c, _⟩ := x
  obtain ⟨o', e', c', _⟩ := y
  rw [e] at e'
  cases e'
  rw [c] at c'
  exact absurd (Value.type.inj c') (by decide)
theorem turn_enumT {P : Program} {w : World} {K : PySem.W.Frag} {elts : List Expr} {kk : Nat} {tpos : Pos} (a e it : Addr) :
    Turn P w K (.Tuple elts kk tpos) (IteT K a) [e, it] e (fun i h => (∃ old, IsEnum h e it ((i : Nat) : Int) old) ∧ h.IsTupleIter it a i ∧ e ≠ it) where
  mem := by simp
  obj := fun i h st b hb => by
    obtain ⟨⟨old, he⟩, ⟨o, ho, hc, hd⟩, _⟩ := st
    have e' : b = e ∨ b = it := by simpa using hb
    rcases e' with z | z
    · rw [z]; exact ⟨_, he, fun v q => nomatch q⟩
    · rw [z]; exact ⟨o, ho, fun v q => by rw [hd] at q; cases q⟩
  keep := fun i h h' st k => let ⟨⟨old, he⟩, hi, hne⟩ := st; ⟨⟨old, k e (by simp) _ he⟩, hi.at fun o q => k it (by simp) o q, hne⟩
  item := by
    intro X hP hw hK hc i pins s σ H E I hf st hg
    subst hP hw hK
    obtain ⟨⟨old, he⟩, hit, hne⟩ := st
    obtain ⟨xs, x, hq, hx⟩ := hg
    obtain ⟨its, rv, p, hz⟩ := I.tuple hq
    obtain ⟨u, hu, ru⟩ := rv.get hx
    have hT0 : s.heap.IsTuple a its.toArray := p
    have hel : e < s.heap.objs.size := Heap.lt_size he
    have hil : it < s.heap.objs.size := by obtain ⟨_, q, _⟩ := hit; exact Heap.lt_size q
    have hea : e ≠ a := by
      rintro rfl
      obtain ⟨o', e', c', _⟩ := hT0
      rw [he] at e'
      cases e'
      exact absurd (Value.type.inj c') (by decide)
    have hlt : i < its.toArray.size := by
      have := (List.getElem?_eq_some_iff.mp hu).1
      simpa using this
    refine wpAny_pyNext_enum_itemD (Draws.tuple (A := X.A.in1) (I.ok.hd hc) it a (tupIter_ne hit hT0) its.toArray) he ⟨hit, hT0⟩ hlt hne (by simp; exact ⟨hne, hea⟩) fun x' h' tk' hx' ho hst hT hsz hk => ?_
    have ex : x' = u := by
      have h1 : its.toArray[i]? = some u := by simpa using hu
      rw [h1] at hx'
      exact (Option.some.inj hx').symm
    subst ex
    refine ⟨_, rfl, wpAny_letOwnedTupleGo_enum (s := { s with heap := h', toks := tk' + 1 }) ho fun h'' he' sb => ?_⟩
    have hT2 : h''.get? s.heap.objs.size = some { cls := .type "tuple", data := .seq #[.int i tk', x'] } := (sb.2 _ (Nat.ne_of_gt hel)).trans hT
    have new : ObjOk X.prog X.w (upd H s.heap.objs.size (.tup [.int (i : Nat), x])) h'' s.heap.objs.size (.tup [.int (i : Nat), x]) :=
      ⟨by show 2 ≤ sizeLine; decide, [.int i tk', x'], .cons ⟨_, rfl⟩ (.cons ru .nil), ⟨_, hT2, rfl, _, rfl⟩⟩
    have I1 : Inv X pins σ (upd H s.heap.objs.size (.tup [.int (i : Nat), x])) { s with heap := h'', toks := tk' + 1 } :=
      I.turnedNew (ch := [e, it]) (fun b ob hb q => (sb.2 b (fun z => hb (by simp [z]))).trans (hk b ob (fun z => hb (by simp [z])) (fun z => hb (by simp [z])) q)) hf (Nat.le_refl _) new
    refine ⟨.ref s.heap.objs.size, _, I1, rfl, ⟨_, x, rfl, I.hok.fresh (Nat.le_refl _), rfl, fun ys hy => by rw [I.tuple_inj hy hq]; exact hx⟩, ⟨⟨x', ?_⟩, hst.1.at fun o q => (sb.2 it (Ne.symm hne)).trans q, hne⟩, fun b hb => ?_⟩
    · have e1 : ((i + 1 : Nat) : Int) = (i : Int) + 1 := by omega
      rw [e1]; exact he'
    · have hb' : b < s.heap.objs.size := by
        have e' : b = e ∨ b = it := by simpa using hb
        rcases e' with z | z
        · rw [z]; exact hel
        · rw [z]; exact hil
      rw [upd_ne (Nat.ne_of_lt hb')]
      exact (hf b hb).1
  done := by
    intro X hP hw hK hc i pins s σ H E I hf st hg
    subst hP hw hK
    obtain ⟨⟨old, he⟩, hit, hne⟩ := st
    obtain ⟨xs, hq, hx⟩ := hg
    obtain ⟨its, rv, p, hz⟩ := I.tuple hq
    have hT0 : s.heap.IsTuple a its.toArray := p
    obtain ⟨f0, f1, f2, f3, f4, f5⟩ := hf it (by simp)
    have hl := rv.length
    exact EnumTX.enum_endT (I.ok.hd hc) he hit hT0 (by simp; omega) fun h' eb => ⟨rfl, I.turned (t' := s.toks) (fun b o hb q => eb b o hb q) f0 f1 f3 f4 f5⟩
  self := fun A i s Q E st h => let ⟨⟨_, he⟩, _⟩ := st; wpAny_pyIter_enum he h
def iEnumT (K : PySem.W.Frag) (ta : TA) : TI := fun σ H R => ta σ H fun vs H1 => ∃ a xs, vs = [.ref a] ∧ SqT K H1 a xs ∧ R (IteT K a) H1
theorem pi_enumT {X : Cx} {e : Expr} {ta : TA} {p pos tpos : Pos} {elts : List Expr} {kk : Nat} (hg : Gl X "enumerate") (hm : X.mg "enumerate" = none) (ha : PA X [e] ta) (hs : starEach [e] X.env = [(false, eval e X.env)] := by rfl) :
    PI X (.Tuple elts kk tpos) (.Call (.Name "enumerate" p) [e] [] pos) (iEnumT X.K ta) := by
  refine ⟨fun pins s σ H R I h => ?_⟩
  refine Call_ (ld_blt I hg hm boot_enumerate (PyProof.Rows.callWith_type1 (thn (ha.run pos pins s σ H _ I h) fun us s1 ⟨vs, H1, I1, r1, q1⟩ => ?_) hs rfl))
  obtain ⟨a, xs, ex, hq, q⟩ := q1
  subst ex
  cases r1 with
  | cons r rr =>
    cases rr
    cases r
    obtain ⟨its, rv, p', hz⟩ := I1.tuple hq
    have hT0 : s1.heap.IsTuple a its.toArray := p'
    refine EnumTX.enum_begins1 (begins_tuple a its.toArray) hT0 fun h' he hit hsz hk => wpAny_pyIter_enum he ?_
    have I2 : Inv X pins σ H1 { s1 with heap := h' } := I1.kept (t' := s1.toks) hk
    refine ⟨s1.heap.objs.size + 1, [s1.heap.objs.size + 1, s1.heap.objs.size], _, _, H1, rfl, I2, turn_enumT a (s1.heap.objs.size + 1) s1.heap.objs.size, ⟨⟨.none, he⟩, ⟨_, hit, rfl, rfl⟩, Nat.succ_ne_self _⟩, fun b hb => ?_, q⟩
    have e' : b = s1.heap.objs.size + 1 ∨ b = s1.heap.objs.size := by simpa using hb
    have hle : s1.heap.objs.size ≤ b := by
      rcases e' with z | z
      · rw [z]; exact Nat.le_add_right _ _
      · rw [z]; exact Nat.le_refl _
    exact I1.fpOk hle (I1.hok.fresh hle)
/-- for i, x in enumerate(a tuple | a list): Pv by the turn; a turn starts with a new pair at p -/
theorem r_enumT {K : PySem.W.Frag} {σ : L2.St} {H : Hp} {t : TA} {R : It → Hp → Prop} (q : t σ H fun vs H1 => ∃ a xs, vs = [.ref a] ∧ SqT K H1 a xs ∧ R (IteT K a) H1) : iEnumT K t σ H R := q
theorem r_enumL {K : PySem.W.Frag} {σ : L2.St} {H : Hp} {t : TA} {R : It → Hp → Prop} (q : t σ H fun vs H1 => ∃ a xs, vs = [.ref a] ∧ SqL K H1 a xs ∧ R (Ite K a) H1) : iEnum K t σ H R := q
theorem e_enumT {K : PySem.W.Frag} {σ : L2.St} {H : Hp} {D : Ends} {a : Addr} {xs : List V} {g : TG} {tb : TS} (hx : SqT K H a xs) (Pv : Nat → L2.St → Hp → Prop) (h0 : Pv 0 σ H) (hl : ∀ i σ H, i ≤ xs.length → Pv i σ H → SqT K H a xs)
    (hs : ∀ i x σ H p, xs[i]? = some x → Pv i σ H → H p = none → g (.ref p) σ (upd H p (.tup [.int (i : Int), x])) fun σ2 H2 => tb { D with nx := Pv (i + 1), ct := Pv (i + 1), bk := D.nx } σ2 H2) (hd : ∀ σ H, Pv xs.length σ H → D.nx σ H) :
    ∃ b ys, [V.ref a] = [V.ref b] ∧ SqT K H b ys ∧ ∃ W : Nat → Nat → L2.St → Hp → Prop, (∃ m, W 0 m σ H) ∧ ∀ i m σ H, W i m σ H →
      ((IteT K b).stop i H ∧ D.nx σ H) ∨ ((IteT K b).go i H ∧ ∃ N : L2.St → Hp → Prop, (∀ σ' H', N σ' H' → ∃ m', m' < m ∧ W (i + 1) m' σ' H') ∧ ∀ x H', (IteT K b).yld i H x H' → g x σ H' fun σ2 H2 => tb { D with nx := N, ct := N, bk := D.nx } σ2 H2) := by
  refine ⟨a, xs, rfl, hx, fun i m σ H => m = xs.length - i ∧ i ≤ xs.length ∧ Pv i σ H, ⟨xs.length, by simp, Nat.zero_le _, h0⟩, ?_⟩
  rintro i m σ H ⟨rfl, hi, p⟩
  have q := hl i σ H hi p
  by_cases hlt : i < xs.length
  · refine .inr ⟨⟨xs, xs[i], q, by simp [hlt]⟩, Pv (i + 1), fun σ' H' p' => ⟨xs.length - (i + 1), by omega, rfl, hlt, p'⟩, fun x H' y => ?_⟩
    obtain ⟨T, x', rfl, nT, rfl, hy⟩ := y
    exact hs i x' σ H T (hy xs q) p nT
  · have e : i = xs.length := by omega
    subst e
    exact .inl ⟨⟨xs, q, Nat.le_refl _⟩, hd σ H p⟩
theorem e_enumL {K : PySem.W.Frag} {σ : L2.St} {H : Hp} {D : Ends} {a : Addr} {xs : List V} {g : TG} {tb : TS} (hx : SqL K H a xs) (Pv : Nat → L2.St → Hp → Prop) (h0 : Pv 0 σ H) (hl : ∀ i σ H, i ≤ xs.length → Pv i σ H → SqL K H a xs)
    (hs : ∀ i x σ H p, xs[i]? = some x → Pv i σ H → H p = none → g (.ref p) σ (upd H p (.tup [.int (i : Int), x])) fun σ2 H2 => tb { D with nx := Pv (i + 1), ct := Pv (i + 1), bk := D.nx } σ2 H2) (hd : ∀ σ H, Pv xs.length σ H → D.nx σ H) :
    ∃ b ys, [V.ref a] = [V.ref b] ∧ SqL K H b ys ∧ ∃ W : Nat → Nat → L2.St → Hp → Prop, (∃ m, W 0 m σ H) ∧ ∀ i m σ H, W i m σ H →
      ((Ite K b).stop i H ∧ D.nx σ H) ∨ ((Ite K b).go i H ∧ ∃ N : L2.St → Hp → Prop, (∀ σ' H', N σ' H' → ∃ m', m' < m ∧ W (i + 1) m' σ' H') ∧ ∀ x H', (Ite K b).yld i H x H' → g x σ H' fun σ2 H2 => tb { D with nx := N, ct := N, bk := D.nx } σ2 H2) := by
  refine ⟨a, xs, rfl, hx, fun i m σ H => m = xs.length - i ∧ i ≤ xs.length ∧ Pv i σ H, ⟨xs.length, by simp, Nat.zero_le _, h0⟩, ?_⟩
  rintro i m σ H ⟨rfl, hi, p⟩
  have q := hl i σ H hi p
  by_cases hlt : i < xs.length
  · refine .inr ⟨⟨xs, xs[i], q, by simp [hlt]⟩, Pv (i + 1), fun σ' H' p' => ⟨xs.length - (i + 1), by omega, rfl, hlt, p'⟩, fun x H' y => ?_⟩
    obtain ⟨T, x', rfl, nT, rfl, hy⟩ := y
    exact hs i x' σ H T (hy xs q) p nT
  · have e : i = xs.length := by omega
    subst e
    exact .inl ⟨⟨xs, q, Nat.le_refl _⟩, hd σ H p⟩
end G

/-! plain mathematics -/
namespace Th
/-- the least number that is none of some -/
def mexA (ws : List Nat) : Nat → Nat → Nat
  | 0, n => n
  | f + 1, n => if n ∈ ws then mexA ws f (n + 1) else n
def mex (ws : List Nat) : Nat := mexA ws (ws.length + 1) 0
theorem range_sub_len : ∀ (n : Nat) (ws : List Nat), (∀ k, k < n → k ∈ ws) → n ≤ ws.length
  | 0, _, _ => Nat.zero_le _
  | n + 1, ws, h => by
    have h1 : n ∈ ws := h n (Nat.lt_succ_self n)
    have ih := range_sub_len n (ws.erase n) fun k hk => (List.mem_erase_of_ne (Nat.ne_of_lt hk)).mpr (h k (Nat.lt_succ_of_lt hk))
    rw [List.length_erase_of_mem h1] at ih
    have := List.length_pos_of_mem h1
    omega
theorem mexA_lt (ws : List Nat) : ∀ (f n : Nat), (∀ k, k < n → k ∈ ws) → ∀ k, k < mexA ws f n → k ∈ ws
  | 0, n, h, k, hk => h k hk
  | f + 1, n, h, k, hk => by
    unfold mexA at hk
    by_cases c : n ∈ ws
    · rw [if_pos c] at hk
      refine mexA_lt ws f (n + 1) (fun j hj => ?_) k hk
      rcases Nat.lt_or_eq_of_le (Nat.le_of_lt_succ hj) with q | q
      · exact h j q
      · rw [q]; exact c
    · rw [if_neg c] at hk
      exact h k hk
theorem mexA_stop (ws : List Nat) : ∀ (f n : Nat), mexA ws f n ∉ ws ∨ mexA ws f n = n + f
  | 0, n => .inr rfl
  | f + 1, n => by
    unfold mexA
    by_cases c : n ∈ ws
    · rw [if_pos c]
      rcases mexA_stop ws f (n + 1) with q | q
      · exact .inl q
      · exact .inr (by omega)
    · rw [if_neg c]
      exact .inl c
theorem mex_lt {ws : List Nat} {k : Nat} (h : k < mex ws) : k ∈ ws := mexA_lt ws _ 0 (fun k hk => absurd hk (Nat.not_lt_zero k)) k h
theorem mex_le (ws : List Nat) : mex ws ≤ ws.length := range_sub_len _ ws fun k hk => mex_lt hk
theorem mex_not (ws : List Nat) : mex ws ∉ ws := by
  rcases mexA_stop ws (ws.length + 1) 0 with q | q
  · exact q
  · have h := mex_le ws
    have e : mex ws = 0 + (ws.length + 1) := q
    omega
theorem mex_eq {ws : List Nat} {n : Nat} (h1 : n ∉ ws) (h2 : ∀ k, k < n → k ∈ ws) : mex ws = n := by
  rcases Nat.lt_trichotomy (mex ws) n with h | h | h
  · exact absurd (h2 _ h) (mex_not ws)
  · exact h
  · exact absurd (mex_lt h) h1
theorem mex_congr {a b : List Nat} (h : ∀ x, x ∈ a ↔ x ∈ b) : mex a = mex b :=
  mex_eq (fun q => mex_not b ((h _).mp q)) fun k hk => (h k).mpr (mex_lt hk)
/-- the least of those in a range that are none of some -/
theorem mex_min {ws : List Nat} {n m : Nat} (hn : ws.length ≤ n) (h1 : m ∈ (List.range (n + 1)).filter fun k => !decide (k ∈ ws)) (h2 : ∀ y, y ∈ (List.range (n + 1)).filter (fun k => !decide (k ∈ ws)) → m ≤ y) : m = mex ws := by
  have hm := mex_not ws
  have hl := mex_le ws
  have h3 : mex ws ∈ (List.range (n + 1)).filter fun k => !decide (k ∈ ws) := List.mem_filter.mpr ⟨List.mem_range.mpr (by omega), by simp [hm]⟩
  have h4 := h2 _ h3
  have h5 : m ∉ ws := by simpa using (List.mem_filter.mp h1).2
  rcases Nat.lt_or_eq_of_le h4 with q | q
  · exact absurd (mex_lt q) h5
  · exact q
/-- where any but S may be taken: the worths that a heap of told.length can be brought to -/
def bwOpts (S told : List Nat) : List Nat := ((List.range told.length).filter fun i => !decide (1 + i ∈ S)).map fun i => told.getD (told.length - (1 + i)) 0
def bw (S : List Nat) : Nat → List Nat
  | 0 => []
  | n + 1 => bw S n ++ [mex (bwOpts S (bw S n))]
theorem bw_length (S : List Nat) : ∀ n, (bw S n).length = n
  | 0 => rfl
  | n + 1 => by
    show (bw S n ++ [_]).length = n + 1
    rw [List.length_append, bw_length S n]
    rfl
theorem mem_bwOpts {S told : List Nat} {x : Nat} : x ∈ bwOpts S told ↔ ∃ k, k < told.length ∧ 1 + k ∉ S ∧ told.getD (told.length - (1 + k)) 0 = x := by
  unfold bwOpts
  rw [List.mem_map]
  constructor
  · rintro ⟨k, hk, e⟩
    obtain ⟨h1, h2⟩ := List.mem_filter.mp hk
    exact ⟨k, List.mem_range.mp h1, by simpa using h2, e⟩
  · rintro ⟨k, h1, h2, e⟩
    exact ⟨k, List.mem_filter.mpr ⟨List.mem_range.mpr h1, by simpa using h2⟩, e⟩
/-- the same by the heap that is left -/
theorem bw_alt (S told : List Nat) : mex (((List.range told.length).filter fun r => !decide (told.length - r ∈ S)).map fun r => told.getD r 0) = mex (bwOpts S told) := by
  refine mex_congr fun x => ?_
  rw [mem_bwOpts, List.mem_map]
  constructor
  · rintro ⟨r, hr, e⟩
    obtain ⟨h1, h2⟩ := List.mem_filter.mp hr
    have h1' := List.mem_range.mp h1
    refine ⟨told.length - 1 - r, by omega, ?_, ?_⟩
    · rw [show 1 + (told.length - 1 - r) = told.length - r by omega]
      simpa using h2
    · rw [show told.length - (1 + (told.length - 1 - r)) = r by omega]
      exact e
  · rintro ⟨k, h1, h2, e⟩
    refine ⟨told.length - (1 + k), List.mem_filter.mpr ⟨List.mem_range.mpr (by omega), ?_⟩, e⟩
    rw [show told.length - (told.length - (1 + k)) = 1 + k by omega]
    simpa using h2
theorem mex_pos {ws : List Nat} {n : Nat} (hn : ws.length ≤ n) : 0 < ((List.range (n + 1)).filter fun k => !decide (k ∈ ws)).length := by
  have hm := mex_not ws
  have hl := mex_le ws
  exact List.length_pos_of_mem (a := mex ws) (List.mem_filter.mpr ⟨List.mem_range.mpr (by omega), by simp [hm]⟩)
/-- numbers that may be taken -/
structure ValidS (S : List Nat) : Prop where
  ne : S ≠ []
  len : S.length ≤ 6
  rng : ∀ s ∈ S, 1 ≤ s ∧ s ≤ 12
  asc : S.Pairwise (· < ·)
end Th

/-! rules with the written part K told -/
namespace G
open PySem PySem.Spec PyProof.Rows L2
section
variable {X : Cx} (K : PySem.W.Frag) {e o a b value : Expr} {es : List Expr} {f name : Str} {pos p p2 apos cpos pos' : Pos} {ta tb te to tv : TE} {t : TA}
theorem ixL (hK : X.K = K := by rfl) : IxR X (rIxL K) := by subst hK; exact ix_list
theorem ixT (hK : X.K = K := by rfl) : IxR X (rIxT K) := by subst hK; exact ix_tup
theorem inS (hK : X.K = K := by rfl) : OpR X (compareOp .In) (rIn K false) := by subst hK; exact op_in_seq
theorem ninS (hK : X.K = K := by rfl) : OpR X (compareOp .NotIn) (rIn K true) := by subst hK; exact op_notIn_seq
theorem eqDK (hu : X.A.units + 64 < cLine) (hK : X.K = K := by rfl) : OpR X (compareOp .Eq) (rEqD K) := by subst hK; exact op_eqD hu
theorem neDK (hu : X.A.units + 64 < cLine) (hK : X.K = K := by rfl) : OpR X (compareOp .NotEq) (rNeD K) := by subst hK; exact op_neD hu
theorem isiK (hK : X.K = K := by rfl) : CallR X (.builtin "isinstance") (rIsi K) := by subst hK; exact call_isi
theorem isiTK (hK : X.K = K := by rfl) : CallR X (.builtin "isinstance") (rIsiT K) := by subst hK; exact call_isiT
def rLen : List V → Hp → VK → Prop := fun xs H Q => ∃ x n, xs = [x] ∧ LenV K x H n ∧ Q (.int n) H
theorem lenK (hK : X.K = K := by rfl) : CallR X (.builtin "len") (rLen K) := by subst hK; exact call_len
theorem minK (hc : X.calm = true) (hK : X.K = K := by rfl) : CallR X (.builtin "min") (rMin K) := by subst hK; exact cr_min hc
theorem maxK (hc : X.calm = true) (hK : X.K = K := by rfl) : CallR X (.builtin "max") (rMax K) := by subst hK; exact cr_max hc
theorem sumK (hc : X.calm = true) (hK : X.K = K := by rfl) : CallR X (.builtin "sum") (rSum K) := by subst hK; exact cr_sum hc
theorem allK (hc : X.calm = true) (hK : X.K = K := by rfl) : CallR X (.builtin "all") (rAll K) := by subst hK; exact cr_all hc
theorem anyK (hc : X.calm = true) (hK : X.K = K := by rfl) : CallR X (.builtin "any") (rAny K) := by subst hK; exact cr_any hc
theorem sortedK (hK : X.K = K := by rfl) : CallR X (.builtin "sorted") (rSorted K) := by subst hK; exact cr_sorted
def rLstOf : List V → Hp → VK → Prop := fun xs H Q => ∃ p ys, xs = [.ref p] ∧ (SqL K H p ys ∨ SqT K H p ys) ∧ ∀ l, H l = none → Q (.ref l) (upd H l (.lst ys))
theorem listK (hK : X.K = K := by rfl) : CallR X (.type "list") (rLstOf K) := by subst hK; exact call_list_of
def rTupOf : List V → Hp → VK → Prop := fun xs H Q => ∃ p ys, xs = [.ref p] ∧ ((SqL K H p ys ∧ ∀ l, H l = none → Q (.ref l) (upd H l (.tup ys))) ∨ (SqT K H p ys ∧ Q (.ref p) H))
theorem tupleK (hK : X.K = K := by rfl) : CallR X (.type "tuple") (rTupOf K) := by subst hK; exact call_tuple_of
theorem slL (hK : X.K = K := by rfl) : SlR X (rSlL K) := by subst hK; exact sl_list
theorem slT (hK : X.K = K := by rfl) : SlR X (rSlA K) := by subst hK; exact sl_tupA
theorem catT (hK : X.K = K := by rfl) : OpR X (binaryOp .Add) (rCatA K) := by subst hK; exact op_catA
theorem cntK (hK : X.K = K := by rfl) : MtR X "list.count" (rCntI K) := by subst hK; exact mt_lcount
theorem fldK (he : PE X e ta) (hK : X.K = K := by rfl) (hb : attributeBase e f X.env (eval e X.env) = eval e X.env := by rfl) : PE X (.Attribute e f pos) (tFld K ta f) := by subst hK; exact pe_fld he hb
theorem sfldK (ha : PE X o ta) (hv : PE X value tv) (hK : X.K = K := by rfl) (hs : swapsWith value (some (.Attribute o f pos')) pos.line X.env = pure false := by rfl) : PS X (.Assign [.Attribute o f pos'] value pos) (sFld K ta tv f) := by subst hK; exact ps_fld ha hv hs
theorem bmK {T id : String} {r : V → List V → Hp → VK → Prop} (pa : PlainAttrs T) (slot : Slot T name id) (hty : typeOf (.builtin id) = pure (.type "method_descriptor")) (hm : MtR X id r) (ho : PE X o to) (ha : PA X (e :: es) t) (hK : X.K = K := by rfl)
    (hbase : attributeBase o name X.env (eval o X.env) = eval o X.env := by rfl)
    (hfew : ((backTo cpos (starEach (e :: es) X.env)).all (fun x => !x.1) && (backToKw cpos (keywordEach [] X.env)).all (fun x => x.1.isSome)
      && decide ((e :: es).length + ([] : List Keyword).length + (if ([] : List Keyword).isEmpty then 0 else 1) < 30)) = true := by rfl)
    (hline : (apos.endLine == cpos.line) = true := by rfl) (hs : starEach (e :: es) X.env = (false, eval e X.env) :: starEach es X.env := by rfl) (hplain : (backTo cpos (starEach es X.env)).any (·.1) = false := by rfl) :
    PE X (.Call (.Attribute o name apos) (e :: es) [] cpos) (tBM K T r to t) := by subst hK; exact pe_bm pa slot hty hm ho ha hbase hfew hline hs hplain
theorem bm0K {T id : String} {r : V → List V → Hp → VK → Prop} (pa : PlainAttrs T) (slot : Slot T name id) (hty : typeOf (.builtin id) = pure (.type "method_descriptor")) (hm : MtR X id r) (ho : PE X o to) (hK : X.K = K := by rfl)
    (hbase : attributeBase o name X.env (eval o X.env) = eval o X.env := by rfl) (hline : (apos.endLine == cpos.line) = true := by rfl) : PE X (.Call (.Attribute o name apos) [] [] cpos) (tBM0 K T r to) := by subst hK; exact pe_bm0 pa slot hty hm ho hbase hline
theorem piL {tg : Expr} (h : PE X e te) (hK : X.K = K := by rfl) : PI X tg e (iList K te) := by subst hK; exact pi_list h
theorem piT {tg : Expr} (h : PE X e te) (hK : X.K = K := by rfl) : PI X tg e (iTup K te) := by subst hK; exact pi_tup h
theorem piEL {tpos : Pos} {elts : List Expr} {kk : Nat} (hg : Gl X "enumerate") (hm : X.mg "enumerate" = none) (ha : PA X [e] t) (hK : X.K = K := by rfl) (hs : starEach [e] X.env = [(false, eval e X.env)] := by rfl) :
    PI X (.Tuple elts kk tpos) (.Call (.Name "enumerate" p) [e] [] pos) (iEnum K t) := by subst hK; exact pi_enum hg hm ha hs
theorem piET {tpos : Pos} {elts : List Expr} {kk : Nat} (hg : Gl X "enumerate") (hm : X.mg "enumerate" = none) (ha : PA X [e] t) (hK : X.K = K := by rfl) (hs : starEach [e] X.env = [(false, eval e X.env)] := by rfl) :
    PI X (.Tuple elts kk tpos) (.Call (.Name "enumerate" p) [e] [] pos) (iEnumT K t) := by subst hK; exact pi_enumT hg hm ha hs
theorem pgT {ts : List Expr} {k : Nat} {g : TGs} {n : Nat} (hc : X.calm = true) (h : PGs X ts g) (hK : X.K = K := by rfl)
    (hn : (assignEach ts X.env).length = n := by rfl) (hst : (assignEach ts X.env).findIdx? (·.1) = none := by rfl) : PG X (.Tuple ts k pos) (gTup K n g) := by subst hK; exact pg_tup hc h hn hst
theorem starK (he : PE X e te) (hr : PA X es t) (hK : X.K = K := by rfl) (hs : starEach (.Starred e p :: es) X.env = (true, eval e X.env) :: starEach es X.env := by rfl) : PA X (.Starred e p :: es) (StX.tStar K te t) := by subst hK; exact StX.pa_star he hr hs
end
def rIsN : R2 := fun x y H Q => y = .non ∧ Q (.bl (decide (x = .non))) H
def rNotN : R2 := fun x y H Q => y = .non ∧ Q (.bl (!decide (x = .non))) H
theorem isN {X : Cx} : OpR X (compareOp .Is) rIsN := op_isN
theorem notN {X : Cx} : OpR X (compareOp .IsNot) rNotN := op_notN
theorem r_isN {x : V} {H : Hp} {Q : VK} (q : Q (.bl (decide (x = .non))) H) : rIsN x .non H Q := ⟨rfl, q⟩
theorem r_notN {x : V} {H : Hp} {Q : VK} (q : Q (.bl (!decide (x = .non))) H) : rNotN x .non H Q := ⟨rfl, q⟩
/-- a statement, then the rest, with a word between them -/
def tCut (t u : TS) : TS := fun D σ H => ∃ Mid : L2.St → Hp → Prop, t { D with nx := Mid } σ H ∧ ∀ σ' H', Mid σ' H' → u D σ' H'
theorem pss_cut {X : Cx} {st : Stmt} {rest : List Stmt} {t u : TS} (h1 : PS X st t) (h2 : PSs X rest u) : PSs X (st :: rest) (tCut t u) := by
  refine ⟨fun pins s σ H D I h => ?_⟩
  obtain ⟨Mid, hm, hu⟩ := h
  refine wpAny_execs_cons (thn (h1.run pins s σ H { D with nx := Mid } I hm) fun f s1 q => ?_)
  cases f with
  | next =>
    obtain ⟨σ', H', I', q⟩ := q
    exact h2.run pins s1 σ' H' D I' (hu σ' H' q)
  | ret v => exact q
  | brk => exact q
  | cont => exact q
theorem r_cut {t u : TS} {D : Ends} {σ : L2.St} {H : Hp} (Mid : L2.St → Hp → Prop) (h : t { D with nx := Mid } σ H) (k : ∀ σ' H', Mid σ' H' → u D σ' H') : tCut t u D σ H := ⟨Mid, h, k⟩
section
variable {K : PySem.W.Frag} {H : Hp} {Q : VK} {p : Addr}
theorem r_cat {q : Addr} {xs zs : List V} (h : H p = some (.lst xs)) (h' : H q = some (.lst zs)) (hz : xs.length + zs.length ≤ 100000) (k : ∀ l, H l = none → Q (.ref l) (upd H l (.lst (xs ++ zs)))) : rCat (.ref p) (.ref q) H Q := ⟨p, q, xs, zs, rfl, rfl, h, h', Nat.le_trans hz (by decide), k⟩
theorem ixN_of {n j : Nat} (h : j < n) : ixN n (j : Int) = some j := by
  unfold ixN
  rw [if_pos (by omega), if_pos (by omega)]
  simp
theorem r_popAt {xs : List V} {j : Nat} {i : Int} (e : i = (j : Int)) (hj : j < xs.length) (hs : j < 1000) (h : H p = some (.lst xs)) (k : Q xs[j] (upd H p (.lst (xs.eraseIdx j)))) : rPopAt (.ref p) [.int i] H Q := by
  subst e
  exact ⟨p, xs, _, j, xs[j], rfl, rfl, h, by omega, by omega, (ixN_seq (ixN_of hj)).1, List.getElem?_eq_getElem hj, k⟩
theorem r_setL {xs : List V} {v : V} {j : Nat} {i : Int} {N : Hp → Prop} (e : i = (j : Int)) (hj : j < xs.length) (h : H p = some (.lst xs)) (k : N (upd H p (.lst (xs.set j v)))) : rSetL (.ref p) (.int i) v H N := by
  subst e
  exact ⟨p, xs, _, j, rfl, rfl, h, ixN_of hj, k⟩
theorem r_lenL {xs : List V} (h : SqL K H p xs) (q : Q (.int (xs.length : Nat)) H) : rLen K [.ref p] H Q := ⟨.ref p, xs.length, rfl, .inl ⟨xs, h, rfl⟩, q⟩
theorem r_lenT {xs : List V} (h : SqT K H p xs) (q : Q (.int (xs.length : Nat)) H) : rLen K [.ref p] H Q := ⟨.ref p, xs.length, rfl, .inr ⟨xs, h, rfl⟩, q⟩
theorem r_lenS {x : Str} (h : x.length ≤ sizeLine) (q : Q (.int (x.length : Nat)) H) : rLen K [.str x] H Q := ⟨.str x, x.length, rfl, ⟨h, rfl⟩, q⟩
theorem r_lstL {xs : List V} (h : SqL K H p xs) (q : ∀ l, H l = none → Q (.ref l) (upd H l (.lst xs))) : rLstOf K [.ref p] H Q := ⟨p, xs, rfl, .inl h, q⟩
theorem r_lstT {xs : List V} (h : SqT K H p xs) (q : ∀ l, H l = none → Q (.ref l) (upd H l (.lst xs))) : rLstOf K [.ref p] H Q := ⟨p, xs, rfl, .inr h, q⟩
theorem r_tupL {xs : List V} (h : SqL K H p xs) (q : ∀ l, H l = none → Q (.ref l) (upd H l (.tup xs))) : rTupOf K [.ref p] H Q := ⟨p, xs, rfl, .inl ⟨h, q⟩⟩
theorem r_tupT {xs : List V} (h : SqT K H p xs) (q : Q (.ref p) H) : rTupOf K [.ref p] H Q := ⟨p, xs, rfl, .inr ⟨h, q⟩⟩
theorem r_star {σ : L2.St} {te : TE} {t : TA} {QA : List V → Hp → Prop} (q : te σ H fun x H1 => ∃ p xs, x = V.ref p ∧ (SqT K H1 p xs ∨ SqL K H1 p xs) ∧ t σ H1 fun ys H2 => QA (xs ++ ys) H2) : StX.tStar K te t σ H QA := q
end
end G

/-! numbers as values -/
namespace G
open PySem PySem.Spec PyProof.Rows L2
/-- a number as a value -/
abbrev vN (n : Nat) : V := .int (n : Int)
/-- is a value an int between two -/
def isFrom (v : V) (lo hi : Int) : Bool := match v with | .int n => decide (lo ≤ n) && decide (n ≤ hi) | _ => false
theorem isFrom_yes {n lo hi : Int} (h1 : lo ≤ n) (h2 : n ≤ hi) : isFrom (.int n) lo hi = true := by
  show (decide (lo ≤ n) && decide (n ≤ hi)) = true
  rw [decide_eq_true h1, decide_eq_true h2]; rfl
theorem isFrom_no {n lo hi : Int} (h : ¬ (lo ≤ n ∧ n ≤ hi)) : isFrom (.int n) lo hi = false := by
  show (decide (lo ≤ n) && decide (n ≤ hi)) = false
  rw [Bool.and_eq_false_iff, decide_eq_false_iff_not, decide_eq_false_iff_not]
  omega
theorem isFrom_iff {n lo hi : Int} : isFrom (.int n) lo hi = true ↔ lo ≤ n ∧ n ≤ hi := by
  show (decide (lo ≤ n) && decide (n ≤ hi)) = true ↔ _
  rw [Bool.and_eq_true, decide_eq_true_eq, decide_eq_true_eq]
theorem vN_at {S : List Nat} {i : Nat} (h : i < S.length) : (S.map vN)[i]? = some (vN S[i]) := by
  rw [List.getElem?_map, List.getElem?_eq_getElem h]; rfl
theorem vI_at {S : List Int} {i : Nat} (h : i < S.length) : (S.map V.int)[i]? = some (V.int S[i]) := by
  rw [List.getElem?_map, List.getElem?_eq_getElem h]; rfl
theorem map_vN (S : List Nat) : S.map vN = (S.map fun n : Nat => (n : Int)).map V.int := by rw [List.map_map]; rfl
theorem flat_ints (S : List Int) : (S.map V.int).all flatV = true := by
  rw [List.all_eq_true]
  intro x hx
  obtain ⟨n, _, rfl⟩ := List.mem_map.mp hx
  rfl
theorem flat_nats (S : List Nat) : (S.map vN).all flatV = true := by rw [map_vN]; exact flat_ints _
theorem inV_ints (n : Int) (S : List Int) : inV (.int n) (S.map V.int) = decide (n ∈ S) := by
  unfold inV
  rw [List.any_map, Bool.eq_iff_iff, List.any_eq_true, decide_eq_true_eq]
  constructor
  · rintro ⟨x, hx, e⟩
    have e' : x = n := by simpa [eqV] using e
    exact e' ▸ hx
  · intro h
    exact ⟨n, h, by simp [eqV]⟩
theorem mem_nats {n : Nat} {S : List Nat} : (n : Int) ∈ (S.map fun n : Nat => (n : Int)) ↔ n ∈ S := by
  constructor
  · intro h
    obtain ⟨m, hm, e⟩ := List.mem_map.mp h
    have : m = n := by omega
    exact this ▸ hm
  · intro h; exact List.mem_map.mpr ⟨n, h, rfl⟩
theorem inV_nats (n : Nat) (S : List Nat) : inV (vN n) (S.map vN) = decide (n ∈ S) := by
  rw [map_vN, inV_ints]
  rw [Bool.eq_iff_iff, decide_eq_true_eq, decide_eq_true_eq]
  exact mem_nats
section
variable {K : PySem.W.Frag} {H : Hp} {Q : VK} {p : Addr}
theorem r_inLI {n : Int} {S : List Int} (h : SqL K H p (S.map V.int)) (q : Q (.bl (decide (n ∈ S))) H) : rIn K false (.int n) (.ref p) H Q :=
  ⟨p, _, rfl, .inl h, rfl, flat_ints S, by
    show Q (.bl (inV _ _)) H
    rw [inV_ints]; exact q⟩
theorem r_ninLI {n : Int} {S : List Int} (h : SqL K H p (S.map V.int)) (q : Q (.bl (!decide (n ∈ S))) H) : rIn K true (.int n) (.ref p) H Q :=
  ⟨p, _, rfl, .inl h, rfl, flat_ints S, by
    show Q (.bl (!inV _ _)) H
    rw [inV_ints]; exact q⟩
theorem r_inLN {n : Nat} {S : List Nat} (h : SqL K H p (S.map vN)) (q : Q (.bl (decide (n ∈ S))) H) : rIn K false (vN n) (.ref p) H Q :=
  ⟨p, _, rfl, .inl h, rfl, flat_nats S, by
    show Q (.bl (inV _ _)) H
    rw [inV_nats]; exact q⟩
theorem r_ninLN {n : Nat} {S : List Nat} (h : SqL K H p (S.map vN)) (q : Q (.bl (!decide (n ∈ S))) H) : rIn K true (vN n) (.ref p) H Q :=
  ⟨p, _, rfl, .inl h, rfl, flat_nats S, by
    show Q (.bl (!inV _ _)) H
    rw [inV_nats]; exact q⟩
theorem r_inTN {n : Nat} {S : List Nat} (h : SqT K H p (S.map vN)) (q : Q (.bl (decide (n ∈ S))) H) : rIn K false (vN n) (.ref p) H Q :=
  ⟨p, _, rfl, .inr h, rfl, flat_nats S, by
    show Q (.bl (inV _ _)) H
    rw [inV_nats]; exact q⟩
theorem r_ninTN {n : Nat} {S : List Nat} (h : SqT K H p (S.map vN)) (q : Q (.bl (!decide (n ∈ S))) H) : rIn K true (vN n) (.ref p) H Q :=
  ⟨p, _, rfl, .inr h, rfl, flat_nats S, by
    show Q (.bl (!inV _ _)) H
    rw [inV_nats]; exact q⟩
theorem r_ixLN {S : List Nat} {i : Int} {j : Nat} {hj : j < S.length} (h : SqL K H p (S.map vN)) (e : i = (j : Int)) (q : Q (vN S[j]) H) : rIxL K (.ref p) (.int i) H Q := by
  subst e
  exact r_ixL h (atI_nat (vN_at hj)) q
theorem r_ixTN {S : List Nat} {i : Int} {j : Nat} {hj : j < S.length} (h : SqT K H p (S.map vN)) (e : i = (j : Int)) (q : Q (vN S[j]) H) : rIxT K (.ref p) (.int i) H Q := by
  subst e
  exact r_ixT h (atI_nat (vN_at hj)) q
theorem r_ixLI {S : List Int} {i : Int} {j : Nat} {hj : j < S.length} (h : SqL K H p (S.map V.int)) (e : i = (j : Int)) (q : Q (.int S[j]) H) : rIxL K (.ref p) (.int i) H Q := by
  subst e
  exact r_ixL h (atI_nat (vI_at hj)) q
/-- xs.append(v), the list tracked at p -/
theorem r_append {xs : List V} {v : V} (h : H p = some (.lst xs)) (hz : xs.length < 100000) (q : Q .non (upd H p (.lst (xs ++ [v])))) : rAppend (.ref p) [v] H Q :=
  ⟨p, xs, v, rfl, rfl, h, Nat.lt_of_lt_of_le hz (by decide), q⟩
theorem tyL {xs : List V} (h : H p = some (.lst xs)) : tyV K "list" (.ref p) H := Or.inl ⟨rfl, xs, .inl (.inl h)⟩
theorem r_minN {S : List Nat} (h : SqL K H p (S.map vN)) (hn : 0 < S.length) (q : ∀ m : Nat, m ∈ S → (∀ y, y ∈ S → m ≤ y) → Q (vN m) H) : rMin K [.ref p] H Q := by
  refine ⟨p, S.map fun n : Nat => (n : Int), rfl, by rw [← map_vN]; exact h, by rw [List.length_map]; exact hn, fun m hm hl => ?_⟩
  obtain ⟨m', hm', rfl⟩ := List.mem_map.mp hm
  refine q m' hm' fun y hy => ?_
  have := hl (y : Int) (List.mem_map.mpr ⟨y, hy, rfl⟩)
  omega
theorem r_maxN {S : List Nat} (h : SqL K H p (S.map vN)) (hn : 0 < S.length) (q : ∀ m : Nat, m ∈ S → (∀ y, y ∈ S → y ≤ m) → Q (vN m) H) : rMax K [.ref p] H Q := by
  refine ⟨p, S.map fun n : Nat => (n : Int), rfl, by rw [← map_vN]; exact h, by rw [List.length_map]; exact hn, fun m hm hl => ?_⟩
  obtain ⟨m', hm', rfl⟩ := List.mem_map.mp hm
  refine q m' hm' fun y hy => ?_
  have := hl (y : Int) (List.mem_map.mpr ⟨y, hy, rfl⟩)
  omega
theorem r_sortedN {S : List Nat} (h : SqL K H p (S.map vN)) (hl : S.length < 64) (q : ∀ (S' : List Nat) (l : Addr), S'.Perm S → S'.Pairwise (· ≤ ·) → H l = none → Q (.ref l) (upd H l (.lst (S'.map vN)))) : rSorted K [.ref p] H Q := by
  refine ⟨p, S.map fun n : Nat => (n : Int), rfl, by rw [← map_vN]; exact h, by rw [List.length_map]; exact hl, fun ns l hp hs nl => ?_⟩
  have e : ns = (ns.map Int.toNat).map fun n : Nat => (n : Int) := by
    rw [List.map_map]
    refine (List.map_id ns).symm.trans (List.map_congr_left fun x hx => ?_)
    obtain ⟨m, _, rfl⟩ := List.mem_map.mp (hp.mem_iff.mp hx)
    simp
  have hp' : (ns.map Int.toNat).Perm S := by
    have h2 := hp.map Int.toNat
    rw [List.map_map] at h2
    have e2 : List.map (Int.toNat ∘ fun n : Nat => (n : Int)) S = S := by
      rw [show (Int.toNat ∘ fun n : Nat => (n : Int)) = id from rfl, List.map_id]
    rwa [e2] at h2
  have hs' : (ns.map Int.toNat).Pairwise (· ≤ ·) := by
    rw [List.pairwise_map]
    exact hs.imp fun {a b} hab => Int.toNat_le_toNat hab
  have h3 := q (ns.map Int.toNat) l hp' hs' nl
  rw [map_vN, ← e] at h3
  exact h3
theorem dp_ints : ∀ (S : List Int), DpAll K H (S.map V.int) (S.map PyData.int)
  | [] => .nil
  | n :: r => .cons (.int n) (dp_ints r)
theorem dp_nats (S : List Nat) : DpAll K H (S.map vN) (S.map fun n : Nat => PyData.int (n : Int)) := by
  have h := dp_ints (K := K) (H := H) (S.map fun n : Nat => (n : Int))
  rw [← map_vN, List.map_map] at h
  exact h
end
/-! data that are tracked -/
mutual
inductive Dt (H : Hp) : V → PyData → Prop
  | non : Dt H .non .none
  | bl (b : Bool) : Dt H (.bl b) (.bool b)
  | int (i : Int) : Dt H (.int i) (.int i)
  | str (x : Str) : Dt H (.str x) (.str x)
  | lst {a : Addr} {xs : List V} {ds : List PyData} : H a = some (.lst xs) → DtAll H xs ds → Dt H (.ref a) (.list ds)
  | tup {a : Addr} {xs : List V} {ds : List PyData} : H a = some (.tup xs) → DtAll H xs ds → Dt H (.ref a) (.tuple ds)
inductive DtAll (H : Hp) : List V → List PyData → Prop
  | nil : DtAll H [] []
  | cons {v : V} {vs : List V} {d : PyData} {ds : List PyData} : Dt H v d → DtAll H vs ds → DtAll H (v :: vs) (d :: ds)
end
section
variable {K : PySem.W.Frag} {H H' : Hp}
mutual
theorem Dt.dp : ∀ {v : V} {d : PyData}, Dt H v d → Dp K H v d
  | _, _, .non => .non
  | _, _, .bl b => .bl b
  | _, _, .int i => .int i
  | _, _, .str x => .str x
  | _, _, .lst h1 h2 => .lst (SqL.of h1) (DtAll.dp h2)
  | _, _, .tup h1 h2 => .tup (SqT.of h1) (DtAll.dp h2)
theorem DtAll.dp : ∀ {vs : List V} {ds : List PyData}, DtAll H vs ds → DpAll K H vs ds
  | _, _, .nil => .nil
  | _, _, .cons h1 h2 => .cons (Dt.dp h1) (DtAll.dp h2)
end
mutual
theorem Dt.same (e : Same H H') : ∀ {v : V} {d : PyData}, Dt H v d → Dt H' v d
  | _, _, .non => .non
  | _, _, .bl b => .bl b
  | _, _, .int i => .int i
  | _, _, .str x => .str x
  | _, _, .lst h1 h2 => .lst (e _ _ h1) (DtAll.same e h2)
  | _, _, .tup h1 h2 => .tup (e _ _ h1) (DtAll.same e h2)
theorem DtAll.same (e : Same H H') : ∀ {vs : List V} {ds : List PyData}, DtAll H vs ds → DtAll H' vs ds
  | _, _, .nil => .nil
  | _, _, .cons h1 h2 => .cons (Dt.same e h1) (DtAll.same e h2)
end
theorem DtAll.length : ∀ {vs : List V} {ds : List PyData}, DtAll H vs ds → vs.length = ds.length
  | _, _, .nil => rfl
  | _, _, .cons _ h => by rw [List.length_cons, List.length_cons, DtAll.length h]
theorem DtAll.get : ∀ {vs : List V} {ds : List PyData} {i : Nat} {v : V}, DtAll H vs ds → vs[i]? = some v → ∃ d, ds[i]? = some d ∧ Dt H v d
  | _, _, i, _, .nil, h => by simp at h
  | _, _, 0, _, .cons h1 _, h => by cases h; exact ⟨_, rfl, h1⟩
  | _, _, i + 1, _, .cons _ h2, h => DtAll.get (i := i) h2 (by simpa using h)
theorem dt_ints : ∀ (S : List Int), DtAll H (S.map V.int) (S.map PyData.int)
  | [] => .nil
  | n :: r => .cons (.int n) (dt_ints r)
theorem dt_nats : ∀ (S : List Nat), DtAll H (S.map vN) (S.map fun n : Nat => PyData.int (n : Int))
  | [] => .nil
  | n :: r => .cons (.int _) (dt_nats r)
theorem dt_map {α : Type} {f : α → V} {g : α → PyData} : ∀ (S : List α), (∀ x ∈ S, Dt H (f x) (g x)) → DtAll H (S.map f) (S.map g)
  | [], _ => .nil
  | a :: r, h => .cons (h a (List.mem_cons_self ..)) (dt_map r fun x hx => h x (List.mem_cons_of_mem _ hx))
end
/-- nested at most n deep -/
def Dn : Nat → PyData → Prop
  | _, .none => True
  | _, .bool _ => True
  | _, .int _ => True
  | _, .str _ => True
  | n + 1, .list ds => ds.length < 100000 ∧ ∀ d ∈ ds, Dn n d
  | n + 1, .tuple ds => ds.length < 100000 ∧ ∀ d ∈ ds, Dn n d
  | _, _ => False
theorem r_eqD {K : PySem.W.Frag} {H : Hp} {x y : V} {d e : PyData} {Q : VK} (hx : Dt H x d) (hy : Dt H y e) (h1 : SeqAt.shaped d = true) (h2 : SeqAt.shaped e = true) (q : Q (.bl (PyData.eqv d e)) H) : rEqD K x y H Q := ⟨d, e, hx.dp, hy.dp, h1, h2, q⟩
theorem r_neD {K : PySem.W.Frag} {H : Hp} {x y : V} {d e : PyData} {Q : VK} (hx : Dt H x d) (hy : Dt H y e) (h1 : SeqAt.shaped d = true) (h2 : SeqAt.shaped e = true) (q : Q (.bl (!PyData.eqv d e)) H) : rNeD K x y H Q := ⟨d, e, hx.dp, hy.dp, h1, h2, q⟩
theorem eqv_bl (a b : Bool) : PyData.eqv (.bool a) (.bool b) = decide (a = b) := by cases a <;> cases b <;> rfl
theorem eqv_int (a b : Int) : PyData.eqv (.int a) (.int b) = decide (a = b) := by
  show (a == b) = decide (a = b)
  rw [Bool.beq_eq_decide_eq]
theorem eqv_str (a b : Str) : PyData.eqv (.str a) (.str b) = decide (a = b) := by
  show (a == b) = decide (a = b)
  rw [Bool.beq_eq_decide_eq]
/-! sel over the items of a list -/
theorem sel_list {α : Type} (as : List α) (f : α → Bool) (g : α → V) (f' : Nat → Bool) (g' : Nat → V) (hf : ∀ i (h : i < as.length), f' i = f as[i]) (hg : ∀ i (h : i < as.length), g' i = g as[i]) :
    sel as.length f' g' = (as.filter f).map g := by
  have key : ∀ n, n ≤ as.length → sel n f' g' = ((as.take n).filter f).map g := by
    intro n
    induction n with
    | zero => intro _; rfl
    | succ n ih =>
      intro h
      have hn : n < as.length := h
      rw [sel_succ, ih (Nat.le_of_lt hn), List.take_succ, List.getElem?_eq_getElem hn, List.filter_append, List.map_append, hf n hn]
      by_cases c : f as[n] = true
      · rw [if_pos c, hg n hn]
        simp [c]
      · rw [if_neg c]
        simp [c]
  have h := key as.length (Nat.le_refl _)
  rwa [List.take_length] at h
theorem sel_nat (n : Nat) (f : Nat → Bool) (g : Nat → Nat) : sel n f (fun i => vN (g i)) = (((List.range n).filter f).map g).map vN := by
  unfold sel
  rw [List.map_map]
  rfl
theorem sel_none (n : Nat) (v : Nat → V) : sel n (fun _ => false) v = [] := by
  unfold sel
  rw [List.filter_eq_nil_iff.mpr (fun _ _ => Bool.false_ne_true)]; rfl
theorem getD_of {S : List Nat} {i : Nat} (h : i < S.length) : S.getD i 0 = S[i] := by
  rw [List.getD_eq_getElem?_getD, List.getElem?_eq_getElem h]; rfl
/-- numbers that may be taken stand at a -/
structure NumsAt (H : Hp) (a : Addr) (S : List Nat) : Prop where
  at_ : H a = some (.tup (S.map vN))
  ok : Th.ValidS S
theorem NumsAt.same {H H' : Hp} {a : Addr} {S : List Nat} (h : NumsAt H a S) (s : Same H H') : NumsAt H' a S := ⟨s _ _ h.at_, h.ok⟩
section
variable {K : PySem.W.Frag} {σ : L2.St} {H : Hp} {te : TE} {tt : TT} {Q : VK} {vs : List Nat} {j : Nat} {α : Type}
theorem e_lcLm {R : Addr → Hp → Prop} {a : Addr} {as : List α} {c : α → V} (hx : SqL K H a (as.map c)) (hn : as.length < 100000) (f : α → Bool) (g : α → V) (hw : ∀ x, wipe ((wipe σ vs).set j (some x)) vs = wipe σ vs)
    (ht : ∀ x H', x ∈ as → Same H H' → ∀ QB : Bool → Hp → Prop, (∀ H2, Same H' H2 → QB (f x) H2) → tt ((wipe σ vs).set j (some (c x))) H' QB)
    (he : ∀ x H', x ∈ as → f x = true → Same H H' → ∀ Q : VK, (∀ H2, Same H' H2 → Q (g x) H2) → te ((wipe σ vs).set j (some (c x))) H' Q)
    (hq : ∀ p H', H p = none → Same H H' → H' p = some (.lst ((as.filter f).map g)) → R p H') :
    ∃ b, V.ref a = V.ref b ∧ (∃ xs, SqL K H b xs) ∧ ∀ Dl, H Dl = none → ∃ W : Nat → Nat → Hp → Prop, (∃ k, W 0 k (upd H Dl (.lst []))) ∧ ∀ i k H, W i k H →
      ((Itl K b).stop i H ∧ R Dl H) ∨ ((Itl K b).go i H ∧ ∃ Nx : Hp → Prop, (∀ H', Nx H' → ∃ m', m' < k ∧ W (i + 1) m' H') ∧ ∀ x H', (Itl K b).yld i H x H' → gName j x (wipe σ vs) H' fun σ2 H2 => wipe σ2 vs = wipe σ vs ∧ tt σ2 H2 fun b H3 =>
        if b = true then te σ2 H3 fun y H4 => ∃ acc, H4 Dl = some (.lst acc) ∧ acc.length < sizeLine ∧ Nx (upd H4 Dl (.lst (acc ++ [y]))) else Nx H3) := by
  refine e_lcL hx (by rw [List.length_map]; exact hn) (fun i => match as[i]? with | some x => f x | none => false) (fun i => match as[i]? with | some x => g x | none => .non) hw (fun i x H' hi s QB q => ?_) (fun i x H' hi e s Q q => ?_) (fun p H' h1 h2 h3 => hq p H' h1 h2 ?_)
  · rw [List.getElem?_map] at hi
    cases e : as[i]? with
    | none => rw [e] at hi; cases hi
    | some y =>
      rw [e] at hi
      cases hi
      refine ht y H' (List.mem_of_getElem? e) s QB fun H2 s2 => ?_
      have h := q H2 s2
      rwa [e] at h
  · rw [List.getElem?_map] at hi
    cases ey : as[i]? with
    | none => rw [ey] at hi; cases hi
    | some y =>
      rw [ey] at hi e
      cases hi
      refine he y H' (List.mem_of_getElem? ey) e s Q fun H2 s2 => ?_
      have h := q H2 s2
      rwa [ey] at h
  · rw [List.length_map] at h3
    rw [sel_list as f g _ _ (fun i h => by simp [List.getElem?_eq_getElem h]) (fun i h => by simp [List.getElem?_eq_getElem h])] at h3
    exact h3
theorem e_lcTm {R : Addr → Hp → Prop} {a : Addr} {as : List α} {c : α → V} (hx : SqT K H a (as.map c)) (hn : as.length < 100000) (f : α → Bool) (g : α → V) (hw : ∀ x, wipe ((wipe σ vs).set j (some x)) vs = wipe σ vs)
    (ht : ∀ x H', x ∈ as → Same H H' → ∀ QB : Bool → Hp → Prop, (∀ H2, Same H' H2 → QB (f x) H2) → tt ((wipe σ vs).set j (some (c x))) H' QB)
    (he : ∀ x H', x ∈ as → f x = true → Same H H' → ∀ Q : VK, (∀ H2, Same H' H2 → Q (g x) H2) → te ((wipe σ vs).set j (some (c x))) H' Q)
    (hq : ∀ p H', H p = none → Same H H' → H' p = some (.lst ((as.filter f).map g)) → R p H') :
    ∃ b, V.ref a = V.ref b ∧ (∃ xs, SqT K H b xs) ∧ ∀ Dl, H Dl = none → ∃ W : Nat → Nat → Hp → Prop, (∃ k, W 0 k (upd H Dl (.lst []))) ∧ ∀ i k H, W i k H →
      ((Itt K b).stop i H ∧ R Dl H) ∨ ((Itt K b).go i H ∧ ∃ Nx : Hp → Prop, (∀ H', Nx H' → ∃ m', m' < k ∧ W (i + 1) m' H') ∧ ∀ x H', (Itt K b).yld i H x H' → gName j x (wipe σ vs) H' fun σ2 H2 => wipe σ2 vs = wipe σ vs ∧ tt σ2 H2 fun b H3 =>
        if b = true then te σ2 H3 fun y H4 => ∃ acc, H4 Dl = some (.lst acc) ∧ acc.length < sizeLine ∧ Nx (upd H4 Dl (.lst (acc ++ [y]))) else Nx H3) := by
  refine e_lcT hx (by rw [List.length_map]; exact hn) (fun i => match as[i]? with | some x => f x | none => false) (fun i => match as[i]? with | some x => g x | none => .non) hw (fun i x H' hi s QB q => ?_) (fun i x H' hi e s Q q => ?_) (fun p H' h1 h2 h3 => hq p H' h1 h2 ?_)
  · rw [List.getElem?_map] at hi
    cases e : as[i]? with
    | none => rw [e] at hi; cases hi
    | some y =>
      rw [e] at hi
      cases hi
      refine ht y H' (List.mem_of_getElem? e) s QB fun H2 s2 => ?_
      have h := q H2 s2
      rwa [e] at h
  · rw [List.getElem?_map] at hi
    cases ey : as[i]? with
    | none => rw [ey] at hi; cases hi
    | some y =>
      rw [ey] at hi e
      cases hi
      refine he y H' (List.mem_of_getElem? ey) e s Q fun H2 s2 => ?_
      have h := q H2 s2
      rwa [ey] at h
  · rw [List.length_map] at h3
    rw [sel_list as f g _ _ (fun i h => by simp [List.getElem?_eq_getElem h]) (fun i h => by simp [List.getElem?_eq_getElem h])] at h3
    exact h3
end
end G

namespace G
open PySem PySem.Spec PyProof.Rows L2
def topS (i : Nat) : Stmt := PySem.Challenge.pw_comesround_k06_all_but_told_numbers.main.body.getD i (.Pass ⟨0, 0, 0, 0⟩)
abbrev s_BadNumbers___init__ : Stmt := inClass (topS 2) 0
abbrev s_is_integer : Stmt := topS 7
abbrev s_is_from : Stmt := topS 8
abbrev s_check_numbers : Stmt := topS 9
abbrev s_check_size : Stmt := topS 10
abbrev s_least_missing : Stmt := topS 13
abbrev s_but_worths : Stmt := topS 15
abbrev s__law_random : Stmt := topS 17
abbrev s__law_below : Stmt := topS 18
abbrev s__law_pick : Stmt := topS 19
abbrev s__law_equal : Stmt := topS 20
abbrev s__law_numbers : Stmt := topS 21
abbrev s__law_told : Stmt := topS 22
abbrev s_law : Stmt := topS 23

local macro_rules | `(tactic| walk_at "go1") => `(tactic| first | (with_reducible refine r_seq ?_) | (with_reducible refine r_ret ?_) | (with_reducible refine r_asg ?_) | (with_reducible refine r_drop ?_) | (with_reducible refine r_if ?_) | (with_reducible refine r_next ?_) | (with_reducible refine r_brk ?_) | (with_reducible refine r_cont ?_) | (with_reducible refine r_retN ?_) | (with_reducible refine r_par ?_) | (with_reducible refine r_par3 ?_) | ((with_reducible refine' r_name ?g1 ?_); (case g1 => (first | (simp only [List.set_cons_zero, List.set_cons_succ]; rfl) | rfl))) | ((with_reducible refine' r_par2 ?g1 ?_); (case g1 => (first | (simp only [List.set_cons_zero, List.set_cons_succ]; rfl) | rfl))) | ((with_reducible refine' r_par3' ?g1 ?_); (case g1 => (first | (simp only [List.set_cons_zero, List.set_cons_succ]; rfl) | rfl))) | ((with_reducible refine' r_var ?g1 ?_); (case g1 => exact rfl)) | (with_reducible refine r_c ?_) | (with_reducible refine r_op ?_) | (with_reducible refine r_cons ?_) | (with_reducible refine r_nil ?_) | (with_reducible refine r_cb ?_) | (with_reducible refine r_test ?_) | (with_reducible refine r_B ?_) | (with_reducible refine r_I0 ?_) | (with_reducible refine r_eqI ?_) | (with_reducible refine r_neI ?_) | (with_reducible refine r_eqS ?_) | (with_reducible refine r_neS ?_) | (with_reducible refine r_eqB ?_) | (with_reducible refine r_neB ?_) | (with_reducible refine r_bl ?_) | (with_reducible refine r_int ?_) | (with_reducible refine r_and ?_) | (with_reducible refine r_or ?_) | (with_reducible refine r_not ?_) | (with_reducible refine r_andV ?_) | (with_reducible refine r_orV ?_) | (with_reducible refine r_notV ?_) | (with_reducible refine r_ifE ?_) | (with_reducible refine r_chain ?_) | (with_reducible refine r_tup ?_) | (with_reducible refine r_lst ?_) | (with_reducible refine r_call ?_) | (with_reducible refine r_callS ?_) | (with_reducible refine r_slice ?_) | (with_reducible refine r_part ?_) | (with_reducible refine r_nopart ?_) | (with_reducible refine r_intI ?_) | (with_reducible refine r_intB ?_) | (with_reducible refine r_un ?_) | (with_reducible refine r_U ?_) | (with_reducible refine r_for ?_) | (with_reducible refine r_rng1 ?_) | (with_reducible refine r_rng2 ?_) | (with_reducible refine r_iL ?_) | (with_reducible refine r_iT ?_) | (with_reducible refine r_enumT ?_) | (with_reducible refine r_enumL ?_) | (with_reducible refine r_lc ?_) | (with_reducible refine r_x1 ?_) | (with_reducible refine r_isN ?_) | (with_reducible refine r_notN ?_) | (with_reducible refine r_star ?_) | (with_reducible refine r_yes ?_) | (with_reducible refine r_bm ?_) | (with_reducible refine r_bm0 ?_) | (with_reducible refine r_gcons ?_) | (with_reducible refine r_gnil ?_) | (with_reducible refine r_gsub ?_) | ((with_reducible refine r_mulR ?g1 ?_); (case g1 => decide)) | ((with_reducible refine r_mulL ?g1 ?_); (case g1 => decide)) | ((with_reducible refine r_fdiv ?g1 ?_); (case g1 => first | decide | (constructor <;> omega))) | ((with_reducible refine r_mod ?g1 ?_); (case g1 => first | decide | omega)) | ((with_reducible refine r_pow ?g1 ?_); (case g1 => decide)) | ((with_reducible refine' r_isi_int ?g1 ?_); (case g1 => first | rfl | assumption | exact kd_tup (by assumption) | exact kd_lst (by assumption) | exact kd_dK (by assumption))) | ((with_reducible refine' r_isi_bool ?g1 ?_); (case g1 => first | rfl | assumption | exact kd_tup (by assumption) | exact kd_lst (by assumption) | exact kd_dK (by assumption))) | ((with_reducible refine' r_isi_str ?g1 ?_); (case g1 => first | rfl | assumption | exact kd_tup (by assumption) | exact kd_lst (by assumption) | exact kd_dK (by assumption))) | ((with_reducible refine' r_isi_list ?g1 ?_); (case g1 => first | rfl | assumption | exact kd_tup (by assumption) | exact kd_lst (by assumption) | exact kd_dK (by assumption))) | ((with_reducible refine' r_isi_tuple ?g1 ?_); (case g1 => first | rfl | assumption | exact kd_tup (by assumption) | exact kd_lst (by assumption) | exact kd_dK (by assumption))) | ((with_reducible refine' r_isi_dict ?g1 ?_); (case g1 => first | rfl | assumption | exact kd_tup (by assumption) | exact kd_lst (by assumption) | exact kd_dK (by assumption))) | ((with_reducible refine' r_lenL ?g1 ?_); (case g1 => first | assumption | exact SqL.of (by assumption) | exact SqL.of upd_same)) | ((with_reducible refine' r_lenT ?g1 ?_); (case g1 => first | assumption | exact SqT.of (by assumption) | exact SqT.of upd_same)) | ((with_reducible refine' r_gtup ?g1 ?g2 ?_); (case g1 => first | exact SqT.of upd_same | assumption | exact SqT.of (by assumption)); (case g2 => rfl)) | ((with_reducible refine' r_aug ?g1 ?_); (case g1 => exact rfl)) | ((with_reducible refine' r_augI ?g1 ?_); (case g1 => (first | (simp only [List.set_cons_zero, List.set_cons_succ]; rfl) | rfl))) | (with_reducible refine iteT ?_) | (with_reducible refine iteF ?_) | ((with_reducible refine r_iteT ?g1 ?_); (case g1 => with_reducible_and_instances rfl)) | ((with_reducible refine r_iteF ?g1 ?_); (case g1 => with_reducible_and_instances rfl)) | ((with_reducible refine r_iteT ?g1 ?_); (case g1 => rfl)) | ((with_reducible refine r_iteF ?g1 ?_); (case g1 => rfl)))
local macro_rules | `(tactic| walk_at "go") => `(tactic| repeat walk_at "go1")
local macro_rules | `(tactic| walk_at "dec") => `(tactic| first | (refine r_iteT (decide_eq_true (by first | assumption | omega)) ?_) | (refine r_iteF (decide_eq_false (by first | assumption | omega)) ?_) | (refine r_iteT (by simp only [*, decide_true, decide_false, Bool.not_true, Bool.not_false]) ?_) | (refine r_iteF (by simp only [*, decide_true, decide_false, Bool.not_true, Bool.not_false]) ?_))
local macro_rules | `(tactic| walk_at "nst") => `(tactic| ((simp only [L2.start, List.length_cons, List.length_nil, List.map_cons, List.map_nil, List.replicate, Nat.reduceAdd, Nat.reduceSub, List.cons_append, List.nil_append]); rfl))

section
variable {P : Program} {w : World} {K : PySem.W.Frag} {mg : Str → Option Value} {base : Heap}

/-- a source of numbers -/
structure DOk (xs : List Int) : Prop where
  ex : ∃ s t r, xs = s :: t :: r ∧ 0 ≤ s ∧ s < 2147483647 ∧ 0 ≤ t ∧ ∀ c ∈ r, 0 ≤ c
  len : xs.length ≤ 100
def Draw (H : Hp) (d : Addr) : Prop := ∃ xs : List Int, H d = some (.lst (xs.map V.int)) ∧ DOk xs
theorem Draw.at_ {H H' : Hp} {d : Addr} (h : Draw H d) (s : Same H H') : Draw H' d := by
  obtain ⟨xs, h1, h2⟩ := h
  exact ⟨xs, s _ _ h1, h2⟩
theorem Draw.ex {H : Hp} {d : Addr} (h : Draw H d) : ∃ o, H d = some o := by
  obtain ⟨xs, h1, h2⟩ := h
  exact ⟨_, h1⟩
theorem Draw.upd {H : Hp} {d p : Addr} {o : HO} (h : Draw H d) (hne : d ≠ p) : Draw (upd H p o) d := by
  obtain ⟨xs, h1, h2⟩ := h
  exact ⟨xs, by rw [upd_ne hne]; exact h1, h2⟩
def sp__law_random (K : PySem.W.Frag) : Sp := fun vs H Q _ => ∃ (a : Addr) (ns : List Int) (salt : Int), vs = [.ref a, .int salt] ∧ SqL K H a (ns.map V.int) ∧ ns.length ≤ 63 ∧ 0 ≤ salt ∧ salt < 2147483647 ∧
  ∀ d H', H d = none → Same H H' → Draw H' d → Q (.ref d) H'
theorem sc__law_random : FnScope ["_law_script", "_law_salt", "_law_seed", "_law_cell"] ["_law_script", "_law_salt"] (defScope s__law_random) := ⟨rfl, rfl, rfl, by decide +kernel, rfl, by decide +kernel, by decide +kernel⟩
theorem ok__law_random (B : BI mg) {f : Addr} {fd : FuncData} (F : Fun K "_law_random" "_law_random" s__law_random f fd) : FnOk P w K mg base (L2.CX P w) 1 f fd ["_law_script", "_law_salt"] (sp__law_random K) := by
  refine okN F sc__law_random (fun vs H Q E h => ?_) (fun cdv A outer s H vs Q E hr h => ?_)
  · obtain ⟨a, ns, salt, rfl, _⟩ := h; rfl
  · obtain ⟨a, ns, salt, rfl, ha, hl, h0, h1, k⟩ := h
    refine r_body (pss_cons (ps_set (i := 2) sc__law_random.nd rfl (Or.inl rfl) (pv 1))
      (pss_cons (ps_for PassesOwn.never rfl (piL K (pv 0)) (pg_name (i := 3) sc__law_random.nd rfl (Or.inl rfl))
      (pss_one (ps_set (i := 2) sc__law_random.nd rfl (Or.inl rfl) (pe_op op_mod (pe_callTy call_int1 (by rfl) B.int PyProof.Rows.boot_int (pa_cons (pe_op op_add (pe_op op_mul (pv 2) pe_int) (pe_callB call_abs (by rfl) B.abs PyProof.Rows.boot_abs (pa_cons (pv 3) pa_nil))) pa_nil)) pe_int))))
      (pss_one (ps_ret (pe_op op_cat (pe_lst (pa_cons (pv 2) (pa_cons pe_int pa_nil))) (pe_lc (own := [("_law_cell", 3)]) rfl sc__law_random.nd (piL K (pv 0)) (blkOk_by (own := [("_law_cell", 3)]) (N := ["_law_script", "_law_salt", "_law_seed", "_law_cell"]) (sc := defScope s__law_random) (by decide +kernel)) (fun _ _ _ _ _ => (pg_name (i := 3) sc__law_random.nd rfl (Or.inl rfl))) (fun _ _ _ _ _ => (pts_one (pt_cmpR op_ge (pv 3) (pe_op op_pow pe_int pe_int) (nomark _)))) (fun _ _ _ _ _ => (pv 3)))))))) (by walk_at "nst") ?_
    walk_at "go"
    refine e_forL (fun i σ H' => (∃ (z : Int) (y : Option V), σ = [some (.ref a), some (.int salt), some (.int z), y] ∧ 0 ≤ z ∧ z < 2147483647) ∧ H' = H) ha ⟨⟨salt, none, rfl, h0, h1⟩, rfl⟩ (fun i σ H' _ h => by rw [h.2]; exact ha) ?_ ?_
    · rintro i x σ H' hi ⟨⟨z, y, rfl, z0, z1⟩, rfl⟩
      obtain ⟨c, hc, rfl⟩ := List.mem_map.mp (List.mem_of_getElem? hi)
      walk_at "go"
      refine r_l1 ?_
      walk_at "go"
      exact ⟨⟨_, _, rfl, Int.emod_nonneg _ (by decide), Int.emod_lt_of_pos _ (by decide)⟩, rfl⟩
    · rintro σ H' ⟨⟨z, y, rfl, z0, z1⟩, rfl⟩
      walk_at "go"
      refine r_new (by simp) fun p hp => ?_
      walk_at "go"
      refine e_lcLm (as := ns) (c := V.int) ((same_new hp).sqL ha) (by omega) (fun c => decide (10 ^ 18 ≤ c)) V.int (fun x => rfl) (fun x H2 hx s QB q => ?_) (fun x H2 hx hf s Q q => ?_) (fun D H2 nD s hD => ?_)
      · walk_at "go"
        exact q H2 (Same.refl H2)
      · walk_at "go"
        exact q H2 (Same.refl H2)
      · walk_at "go"
        have hfl := List.length_filter_le (fun c => decide ((10 : Int) ^ 18 ≤ c)) ns
        refine r_cat (s _ _ upd_same) hD (by simp only [List.length_cons, List.length_nil, List.length_map]; omega) fun l hl' => ?_
        have sm : Same H' (upd H2 l (.lst (([.int z, .int 0] : List V) ++ (ns.filter fun c => decide ((10 : Int) ^ 18 ≤ c)).map V.int))) := ((same_new hp).trans s).trans (same_new hl')
        refine k l _ (((same_new hp).trans s).free hl') sm ⟨z :: 0 :: ns.filter (fun c => decide ((10 : Int) ^ 18 ≤ c)), upd_same, ⟨⟨z, 0, _, rfl, z0, z1, Int.le_refl 0, fun c hc => ?_⟩, ?_⟩⟩
        · have := of_decide_eq_true (List.mem_filter.mp hc).2
          omega
        · simp only [List.length_cons]; omega

-- needs: _law_random
def sp__law_below : Sp := fun vs H Q _ => ∃ (d : Addr) (n : Nat), vs = [.ref d, vN n] ∧ Draw H d ∧ 1 ≤ n ∧ n ≤ 100000000 ∧
  ∀ (r : Nat) H', r < n → Draw H' d → Keep d H H' → Q (vN r) H'
theorem emod_nat {z : Int} {n : Nat} (h : 0 < n) : ∃ r : Nat, z % (n : Int) = (r : Int) ∧ r < n := by
  have h1 := Int.emod_nonneg z (show (n : Int) ≠ 0 by omega)
  have h2 := Int.emod_lt_of_pos z (show (0 : Int) < (n : Int) by omega)
  exact ⟨(z % (n : Int)).toNat, by omega, by omega⟩
theorem sc__law_below : FnScope ["_law_d", "_law_size", "_law_result"] ["_law_d", "_law_size"] (defScope s__law_below) := ⟨rfl, rfl, rfl, by decide +kernel, rfl, by decide +kernel, by decide +kernel⟩
theorem ok__law_below (B : BI mg) {f : Addr} {fd : FuncData} (F : Fun K "_law_below" "_law_below" s__law_below f fd) : FnOk P w K mg base (L2.CX P w) 1 f fd ["_law_d", "_law_size"] (sp__law_below) := by
  refine okN F sc__law_below (fun vs H Q E h => ?_) (fun cdv A outer s H vs Q E hr h => ?_)
  · obtain ⟨d, n, rfl, _⟩ := h; rfl
  · obtain ⟨d, n, rfl, ⟨xs, hd, ⟨⟨s0, t0, r0, rfl, s1, s2, t1, hr0⟩, hl0⟩⟩, n1, n2, k⟩ := h
    refine r_body (pss_cut (ps_if (PW.pt (pw_and (pt_cmpR op_eq (pe_ix (ixL K) (pv 0) pe_int (fun _ _ => rfl)) pe_int (nomark _)) (pw_and1 (pt_cmpR op_gt (pe_callB (lenK K) (by rfl) B.len boot_len (pa_cons (pv 0) pa_nil)) pe_int (nomark _)))))
      (pss_one (ps_asg (bmK K PySem.F.plainAttrs_list PySem.F.slot_list_pop PySem.F.type_list_pop mt_popAt (pv 0) (pa_cons pe_int pa_nil)) (pg_sub (pv 0) pe_int set_list))) pss_nil)
      (pss_cons (ps_if (pt_cmpR op_gt (pe_ix (ixL K) (pv 0) pe_int (fun _ _ => rfl)) pe_int (nomark _))
      (pss_cons (ps_set (i := 2) sc__law_below.nd rfl (Or.inl rfl) (pe_op op_mod (pe_callTy call_int1 (by rfl) B.int PyProof.Rows.boot_int (pa_cons (pe_ix (ixL K) (pv 0) pe_int (fun _ _ => rfl)) pa_nil)) (pv 1)))
      (pss_cons (ps_asg (pe_op op_fdiv (pe_ix (ixL K) (pv 0) pe_int (fun _ _ => rfl)) (pv 1)) (pg_sub (pv 0) pe_int set_list))
      (pss_one (ps_ret (pv 2))))) pss_nil)
      (pss_cons (ps_asg (pe_op op_mod (pe_callTy call_int1 (by rfl) B.int PyProof.Rows.boot_int (pa_cons (pe_op op_add (pe_op op_mul (pe_ix (ixL K) (pv 0) pe_int (fun _ _ => rfl)) pe_int) pe_int) pa_nil)) pe_int) (pg_sub (pv 0) pe_int set_list))
      (pss_one (ps_ret (pe_op op_mod (pe_callTy call_int1 (by rfl) B.int PyProof.Rows.boot_int (pa_cons (pe_op op_fdiv (pe_ix (ixL K) (pv 0) pe_int (fun _ _ => rfl)) pe_int) pa_nil)) (pv 1))))))) (by walk_at "nst") ?_
    walk_at "go"
    refine r_cut (fun σ H' => σ = [some (.ref d), some (vN n), none] ∧ ∃ s t r, H' d = some (.lst ((s :: t :: r).map V.int)) ∧ Keep d H H' ∧ 0 ≤ s ∧ s < 2147483647 ∧ 0 ≤ t ∧ (∀ c ∈ r, 0 ≤ c) ∧ (s :: t :: r).length ≤ 100) ?_ ?_
    · walk_at "go"
      refine r_ixL (SqL.of hd) (atI_nat (j := 1) rfl) ?_
      walk_at "go"
      have same : ([some (V.ref d), some (vN n), none] : L2.St) = [some (.ref d), some (vN n), none] ∧ ∃ s t r, H d = some (.lst ((s :: t :: r).map V.int)) ∧ Keep d H H ∧ 0 ≤ s ∧ s < 2147483647 ∧ 0 ≤ t ∧ (∀ c ∈ r, 0 ≤ c) ∧ (s :: t :: r).length ≤ 100 := ⟨rfl, s0, t0, r0, hd, Keep.refl d H, s1, s2, t1, hr0, hl0⟩
      by_cases c : t0 = 0
      · walk_at "dec"
        walk_at "go"
        cases r0 with
        | nil =>
          walk_at "go"
          exact same
        | cons c0 r1 =>
          have e : (2 : Int) < ((((s0 :: t0 :: c0 :: r1).map V.int).length : Nat) : Int) := by simp only [List.length_map, List.length_cons]; omega
          walk_at "dec"
          walk_at "go"
          refine ⟨tyL hd, ?_⟩
          walk_at "go"
          refine r_popAt (j := 2) rfl (by simp only [List.length_map, List.length_cons]; omega) (by decide) hd ?_
          walk_at "go"
          refine r_setL (j := 1) rfl (by simp [List.length_eraseIdx]) upd_same ?_
          refine ⟨rfl, s0, c0, r1, ?_, ?_, s1, s2, hr0 c0 (List.mem_cons_self ..), fun c hc => hr0 c (List.mem_cons_of_mem _ hc), ?_⟩
          · rw [upd_same]; rfl
          · exact keep_mut (keep_mut (Keep.refl d H))
          · simp only [List.length_cons] at hl0 ⊢; omega
      · walk_at "dec"
        walk_at "go"
        exact same
    · rintro σ' H1 ⟨rfl, s, t, r, h1, k1, z1, z2, z3, hr, hl⟩
      walk_at "go"
      refine r_ixL (SqL.of h1) (atI_nat (j := 1) rfl) ?_
      walk_at "go"
      by_cases c : 0 < t
      · walk_at "dec"
        walk_at "go"
        refine r_ixL (SqL.of h1) (atI_nat (j := 1) rfl) ?_
        walk_at "go"
        refine r_ixL (SqL.of h1) (atI_nat (j := 1) rfl) ?_
        walk_at "go"
        refine r_setL (j := 1) rfl (by simp) h1 ?_
        walk_at "go"
        obtain ⟨q, eq, hq⟩ := emod_nat (z := t) (n := n) (by omega)
        rw [eq]
        refine k q _ hq ⟨s :: t / (n : Int) :: r, ?_, ⟨⟨s, _, r, rfl, z1, z2, Int.ediv_nonneg z3 (by omega), hr⟩, ?_⟩⟩ (keep_mut k1)
        · rw [upd_same]; rfl
        · simp only [List.length_cons] at hl ⊢; omega
      · walk_at "dec"
        walk_at "go"
        refine r_ixL (SqL.of h1) (atI_nat (j := 0) rfl) ?_
        walk_at "go"
        refine r_setL (j := 0) rfl (by simp) h1 ?_
        walk_at "go"
        refine r_ixL (SqL.of upd_same) (atI_nat (j := 0) rfl) ?_
        walk_at "go"
        obtain ⟨q, eq, hq⟩ := emod_nat (z := (s * 48271 + 11) % 2147483647 / 64) (n := n) (by omega)
        rw [eq]
        refine k q _ hq ⟨(s * 48271 + 11) % 2147483647 :: t :: r, ?_, ⟨⟨_, _, r, rfl, Int.emod_nonneg _ (by decide), Int.emod_lt_of_pos _ (by decide), z3, hr⟩, ?_⟩⟩ (keep_mut k1)
        · rw [upd_same]; rfl
        · simp only [List.length_cons] at hl ⊢; omega

-- needs: _law_below
def sp__law_numbers : Sp := fun vs H Q _ => ∃ (d : Addr) (most many : Nat), vs = [.ref d, vN most, vN many] ∧ Draw H d ∧ 1 ≤ most ∧ most ≤ 100 ∧ 1 ≤ many ∧ many ≤ 50 ∧
  ∀ (p : Addr) (S : List Nat) H', H p = none → p ≠ d → H' p = some (.tup (S.map vN)) → S ≠ [] → S.length ≤ many → (∀ s ∈ S, 1 ≤ s ∧ s ≤ most) → S.Pairwise (· < ·) → Draw H' d → Keep d H H' → Q (.ref p) H'
theorem sc__law_numbers : FnScope ["_law_d", "_law_most", "_law_many", "_law_found", "_law_k", "_law_number"] ["_law_d", "_law_most", "_law_many"] (defScope s__law_numbers) := ⟨rfl, rfl, rfl, by decide +kernel, rfl, by decide +kernel, by decide +kernel⟩
theorem ok__law_numbers (B : BI mg) (h__law_below : Has P w K mg base 1 "_law_below" ["_law_d", "_law_size"] sp__law_below) {f : Addr} {fd : FuncData} (F : Fun K "_law_numbers" "_law_numbers" s__law_numbers f fd) : FnOk P w K mg base (L2.CX P w) 2 f fd ["_law_d", "_law_most", "_law_many"] (sp__law_numbers) := by
  refine okN F sc__law_numbers (fun vs H Q E h => ?_) (fun cdv A outer s H vs Q E hr h => ?_)
  · obtain ⟨d, most, many, rfl, _⟩ := h; rfl
  · obtain ⟨d, most, many, rfl, hd, m1, m2, n1, n2, k⟩ := h
    refine r_body (pss_cons (ps_set (i := 3) sc__law_numbers.nd rfl (Or.inl rfl) (pe_lst pa_nil))
      (pss_cons (ps_for PassesOwn.never rfl (pi_range1 (by rfl) B.range (pa_cons (pe_op op_add pe_int (pe_h h__law_below (hr.mono (by omega)) (pa_cons (pv 0) (pa_cons (pv 2) pa_nil)))) pa_nil)) (pg_name (i := 4) sc__law_numbers.nd rfl (Or.inl rfl))
      (pss_cons (ps_set (i := 5) sc__law_numbers.nd rfl (Or.inl rfl) (pe_op op_add pe_int (pe_h h__law_below (hr.mono (by omega)) (pa_cons (pv 0) (pa_cons (pv 1) pa_nil)))))
      (pss_one (ps_if (pt_cmpR (ninS K) (pv 5) (pv 3) (by rfl))
      (pss_one (ps_expr (bmK K PySem.F.plainAttrs_list PySem.F.slot_list_append PySem.F.type_list_append mt_append (pv 3) (pa_cons (pv 5) pa_nil)))) pss_nil))))
      (pss_one (ps_ret (pe_callTy (tupleK K) (by rfl) B.tuple PyProof.Rows.boot_tuple (pa_cons (pe_callB (sortedK K) (by rfl) B.sorted PyProof.Rows.boot_sorted (pa_cons (pv 3) pa_nil)) pa_nil)))))) (by walk_at "nst") ?_
    walk_at "go"
    refine r_new (by simp) fun p hp => ?_
    have ndp : d ≠ p := by
      obtain ⟨o, ho⟩ := hd.ex
      exact ne_of_none ho hp
    walk_at "go"
    refine ⟨d, many, rfl, hd.upd ndp, n1, by omega, fun r H1 hr d1 k1 => ?_⟩
    walk_at "go"
    have k0 : Keep d H H1 := (same_new hp).keep.trans k1
    refine e_forR1 (n := 1 + r) (by omega) (by omega) (fun i σ H' => (∃ y z, σ = [some (.ref d), some (vN most), some (vN many), some (.ref p), y, z]) ∧ Draw H' d ∧ Keep d H H' ∧ ∃ F : List Nat, H' p = some (.lst (F.map vN)) ∧ F.Nodup ∧ F.length ≤ i ∧ (∀ s ∈ F, 1 ≤ s ∧ s ≤ most) ∧ (0 < i → F ≠ []))
      ⟨⟨_, _, rfl⟩, d1, k0, [], by rw [k1 p _ ndp.symm upd_same]; rfl, List.nodup_nil, Nat.le_refl _, fun s hs => absurd hs (List.not_mem_nil), fun h => absurd h (Nat.lt_irrefl 0)⟩ ?_ ?_
    · rintro i σ H2 hi ⟨⟨y, z, rfl⟩, d2, k2, F, hF, nF, lF, rF, eF⟩
      walk_at "go"
      refine ⟨d, most, rfl, d2, m1, by omega, fun q H3 hq d3 k3 => ?_⟩
      walk_at "go"
      have hF3 : H3 p = some (.lst (F.map vN)) := k3 p _ ndp.symm hF
      have e1 : (1 : Int) + (q : Int) = ((1 + q : Nat) : Int) := by omega
      rw [e1]
      refine r_ninLN (SqL.of hF3) ?_
      walk_at "go"
      by_cases c : 1 + q ∈ F
      · rw [decide_eq_true c]
        walk_at "go"
        exact ⟨⟨_, _, rfl⟩, d3, k2.trans k3, F, hF3, nF, by omega, rF, fun _ e => by rw [e] at c; exact absurd c (List.not_mem_nil)⟩
      · rw [decide_eq_false c]
        walk_at "go"
        refine ⟨tyL hF3, ?_⟩
        walk_at "go"
        refine r_append hF3 (by rw [List.length_map]; omega) ?_
        refine ⟨⟨_, _, rfl⟩, d3.upd ndp, keep_new (k2.trans k3) hp, F ++ [1 + q], ?_, ?_, ?_, ?_, fun _ => by simp⟩
        · rw [upd_same, List.map_append]; rfl
        · rw [List.nodup_append]
          refine ⟨nF, by simp, fun a ha b hb => ?_⟩
          have : b = 1 + q := by simpa using hb
          rintro rfl
          exact c (this ▸ ha)
        · rw [List.length_append]; simp only [List.length_cons, List.length_nil]; omega
        · intro s hs
          rcases List.mem_append.mp hs with h | h
          · exact rF s h
          · have : s = 1 + q := by simpa using h
            omega
    · rintro σ H2 ⟨⟨y, z, rfl⟩, d2, k2, F, hF, nF, lF, rF, eF⟩
      walk_at "go"
      refine r_sortedN (SqL.of hF) (by omega) fun S l hS hs hl => ?_
      walk_at "go"
      refine r_tupL (SqL.of upd_same) fun t ht => ?_
      have dl : d ≠ l := by
        obtain ⟨o, ho⟩ := d2.ex
        exact ne_of_none ho hl
      have htH2 : H2 t = none := (same_new hl).free ht
      have dt : d ≠ t := by
        obtain ⟨o, ho⟩ := d2.ex
        exact ne_of_none ho htH2
      have hlH : H l = none := k2.fresh hl d2.ex
      have htH : H t = none := k2.fresh htH2 d2.ex
      have nS : S.Nodup := hS.symm.nodup nF
      refine k t S _ htH dt.symm upd_same ?_ ?_ ?_ ?_ ((d2.upd dl).upd dt) (keep_new (keep_new k2 hlH) htH)
      · intro e
        rw [e] at hS
        exact eF (by omega) hS.symm.eq_nil
      · rw [hS.length_eq]; omega
      · intro s hs'
        exact rF s (hS.mem_iff.mp hs')
      · have h2 := hs.and nS
        exact h2.imp fun {a b} h => Nat.lt_of_le_of_ne h.1 h.2

def sp__law_equal (n : Nat) : Sp := fun vs H Q _ => ∃ (x y : V) (d : PyData), vs = [x, y] ∧ Dt H x d ∧ Dt H y d ∧ Dn n d ∧ ∀ H', Same H H' → Q (.bl true) H'
/-- the promise one level down -/
def spP__law_equal : Nat → Sp
  | 0 => fun _ _ _ _ => False
  | n + 1 => sp__law_equal n
theorem sc__law_equal : FnScope ["_law_actual", "_law_expected", "_law_key", "_law_k"] ["_law_actual", "_law_expected"] (defScope s__law_equal) := ⟨rfl, rfl, rfl, by decide +kernel, rfl, by decide +kernel, by decide +kernel⟩
theorem ok__law_equal (B : BI mg) {n : Nat} (h__law_equal : Has P w K mg base n "_law_equal" ["_law_actual", "_law_expected"] (spP__law_equal n)) {f : Addr} {fd : FuncData} (F : Fun K "_law_equal" "_law_equal" s__law_equal f fd) : FnOk P w K mg base (L2.CX P w) (n + 1) f fd ["_law_actual", "_law_expected"] (sp__law_equal n) := by
  refine okN F sc__law_equal (fun vs H Q E h => ?_) (fun cdv A outer s H vs Q E hr h => ?_)
  · obtain ⟨x, y, d, rfl, _⟩ := h; rfl
  · obtain ⟨x, y, d, rfl, hx, hy, hn, k⟩ := h
    refine r_body (pss_cons (ps_if (pt_cmpR isN (pv 1) pe_non (nomark _))
      (pss_one (ps_ret (pe_cmpR isN (pv 0) pe_non (nomark _)))) pss_nil)
      (pss_cons (ps_if (pt_val (pe_callB (isiK K) (by rfl) B.isinstance PyProof.Rows.boot_isinstance (pa_cons (pv 1) (pa_cons (pe_bltn (v := .ty "bool") (by rfl) B.bool PyProof.Rows.boot_bool rfl) pa_nil))))
      (pss_one (ps_ret (pe_and (pe_callB (isiK K) (by rfl) B.isinstance PyProof.Rows.boot_isinstance (pa_cons (pv 0) (pa_cons (pe_bltn (v := .ty "bool") (by rfl) B.bool PyProof.Rows.boot_bool rfl) pa_nil))) (pe_one (pe_cmpR op_eq (pv 0) (pv 1) (nomark _)))))) pss_nil)
      (pss_cons (ps_if (pt_val (pe_callB (isiK K) (by rfl) B.isinstance PyProof.Rows.boot_isinstance (pa_cons (pv 1) (pa_cons (pe_bltn (v := .ty "int") (by rfl) B.int PyProof.Rows.boot_int rfl) pa_nil))))
      (pss_one (ps_ret (pe_and (pe_callB (isiK K) (by rfl) B.isinstance PyProof.Rows.boot_isinstance (pa_cons (pv 0) (pa_cons (pe_bltn (v := .ty "int") (by rfl) B.int PyProof.Rows.boot_int rfl) pa_nil))) (pe_and (pe_not (pe_callB (isiK K) (by rfl) B.isinstance PyProof.Rows.boot_isinstance (pa_cons (pv 0) (pa_cons (pe_bltn (v := .ty "bool") (by rfl) B.bool PyProof.Rows.boot_bool rfl) pa_nil)))) (pe_one (pe_cmpR op_eq (pv 0) (pv 1) (nomark _))))))) pss_nil)
      (pss_cons (ps_if (pt_val (pe_callB (isiK K) (by rfl) B.isinstance PyProof.Rows.boot_isinstance (pa_cons (pv 1) (pa_cons (pe_bltn (v := .ty "str") (by rfl) B.str PyProof.Rows.boot_str rfl) pa_nil))))
      (pss_one (ps_ret (pe_and (pe_callB (isiK K) (by rfl) B.isinstance PyProof.Rows.boot_isinstance (pa_cons (pv 0) (pa_cons (pe_bltn (v := .ty "str") (by rfl) B.str PyProof.Rows.boot_str rfl) pa_nil))) (pe_one (pe_cmpR op_eq (pv 0) (pv 1) (nomark _)))))) pss_nil)
      (pss_cons (ps_if (pt_val (pe_callB (isiK K) (by rfl) B.isinstance PyProof.Rows.boot_isinstance (pa_cons (pv 1) (pa_cons (pe_bltn (v := .ty "dict") (by rfl) B.dict PyProof.Rows.boot_dict rfl) pa_nil))))
      (pss_cons ps_never
      (pss_one ps_never)) pss_nil)
      (pss_cons (ps_if (pt_cmpR op_ne (pe_callB (isiK K) (by rfl) B.isinstance PyProof.Rows.boot_isinstance (pa_cons (pv 1) (pa_cons (pe_bltn (v := .ty "tuple") (by rfl) B.tuple PyProof.Rows.boot_tuple rfl) pa_nil))) (pe_callB (isiK K) (by rfl) B.isinstance PyProof.Rows.boot_isinstance (pa_cons (pv 0) (pa_cons (pe_bltn (v := .ty "tuple") (by rfl) B.tuple PyProof.Rows.boot_tuple rfl) pa_nil))) (nomark _))
      (pss_one (ps_ret pe_bl)) pss_nil)
      (pss_cons (ps_if (pt_cmpR op_ne (pe_callB (isiK K) (by rfl) B.isinstance PyProof.Rows.boot_isinstance (pa_cons (pv 1) (pa_cons (pe_bltn (v := .ty "list") (by rfl) B.list PyProof.Rows.boot_list rfl) pa_nil))) (pe_callB (isiK K) (by rfl) B.isinstance PyProof.Rows.boot_isinstance (pa_cons (pv 0) (pa_cons (pe_bltn (v := .ty "list") (by rfl) B.list PyProof.Rows.boot_list rfl) pa_nil))) (nomark _))
      (pss_one (ps_ret pe_bl)) pss_nil)
      (pss_cons (ps_if (pt_cmpR op_ne (pe_callB (lenK K) (by rfl) B.len boot_len (pa_cons (pv 0) pa_nil)) (pe_callB (lenK K) (by rfl) B.len boot_len (pa_cons (pv 1) pa_nil)) (nomark _))
      (pss_one (ps_ret pe_bl)) pss_nil)
      (pss_one (ps_ret (pe_callB (allK K rfl) (by rfl) B.all PyProof.Rows.boot_all (pa_cons (pe_lc (own := [("_law_k", 3)]) rfl sc__law_equal.nd (pi_range1 (by rfl) B.range (pa_cons (pe_callB (lenK K) (by rfl) B.len boot_len (pa_cons (pv 1) pa_nil)) pa_nil)) (blkOk_by (own := [("_law_k", 3)]) (N := ["_law_actual", "_law_expected", "_law_key", "_law_k"]) (sc := defScope s__law_equal) (by decide +kernel)) (fun _ _ _ _ _ => (pg_name (i := 3) sc__law_equal.nd rfl (Or.inl rfl))) (fun _ _ _ _ _ => pts_nil) (fun _ _ _ _ _ => (pe_h h__law_equal (hr.mono (by omega)) (pa_cons (pe_ix ((ixL K).or (ixT K)) (pv 0) (pv 3) (fun _ _ => rfl)) (pa_cons (pe_ix ((ixL K).or (ixT K)) (pv 1) (pv 3) (fun _ _ => rfl)) pa_nil))))) pa_nil)))))))))))) (by walk_at "nst") ?_
    walk_at "go"
    cases hx with
    | non =>
      cases hy
      walk_at "go"
      exact k H (Same.refl H)
    | bl b =>
      cases hy
      walk_at "go"
      rw [decide_eq_true rfl]
      exact k H (Same.refl H)
    | int b =>
      cases hy
      walk_at "go"
      rw [decide_eq_true rfl]
      exact k H (Same.refl H)
    | str b =>
      cases hy
      walk_at "go"
      rw [decide_eq_true rfl]
      exact k H (Same.refl H)
    | @lst a xs ds h1 h2 =>
      cases hy with
      | @lst b ys _ g1 g2 =>
      cases n with
      | zero => exact hn.elim
      | succ n =>
      have l1 := h2.length
      have l2 := g2.length
      walk_at "go"
      rw [decide_eq_true (show (xs.length : Int) = (ys.length : Int) by omega)]
      walk_at "go"
      have hz : ys.length < 100000 := by rw [l2]; exact hn.1
      refine e_lcR1 (n := ys.length) rfl hz (fun _ => true) (fun _ => .bl true) (fun x => rfl) (fun i H2 hi s QB q => ?_) (fun i H2 hi hf s Q q => ?_) (fun D H2 nD s hD => ?_)
      · walk_at "go"
        exact q H2 (Same.refl H2)
      · walk_at "go"
        have e1 : xs[i]? = some xs[i] := List.getElem?_eq_getElem (by omega)
        have e2 : ys[i]? = some ys[i] := List.getElem?_eq_getElem hi
        refine .inl (r_ixL (SqL.of (s _ _ h1)) (atI_nat e1) ?_)
        walk_at "go"
        refine .inl (r_ixL (SqL.of (s _ _ g1)) (atI_nat e2) ?_)
        walk_at "go"
        obtain ⟨d, ed, hd⟩ := h2.get e1
        obtain ⟨d', ed', hd'⟩ := g2.get e2
        rw [ed] at ed'
        cases ed'
        exact ⟨_, _, d, rfl, hd.same s, hd'.same s, hn.2 d (List.mem_of_getElem? ed), q⟩
      · walk_at "go"
        refine ⟨D, List.replicate ys.length true, rfl, SqL.of ?_, ?_⟩
        · rw [hD, List.map_replicate]
          unfold sel
          rw [List.filter_eq_self.mpr (fun _ _ => rfl), List.map_const', List.length_range]
        · rw [show (List.replicate ys.length true).all id = true by simp [List.all_replicate]]
          exact k H2 s
    | @tup a xs ds h1 h2 =>
      cases hy with
      | @tup b ys _ g1 g2 =>
      cases n with
      | zero => exact hn.elim
      | succ n =>
      have l1 := h2.length
      have l2 := g2.length
      walk_at "go"
      rw [decide_eq_true (show (xs.length : Int) = (ys.length : Int) by omega)]
      walk_at "go"
      have hz : ys.length < 100000 := by rw [l2]; exact hn.1
      refine e_lcR1 (n := ys.length) rfl hz (fun _ => true) (fun _ => .bl true) (fun x => rfl) (fun i H2 hi s QB q => ?_) (fun i H2 hi hf s Q q => ?_) (fun D H2 nD s hD => ?_)
      · walk_at "go"
        exact q H2 (Same.refl H2)
      · walk_at "go"
        have e1 : xs[i]? = some xs[i] := List.getElem?_eq_getElem (by omega)
        have e2 : ys[i]? = some ys[i] := List.getElem?_eq_getElem hi
        refine .inr (r_ixT (SqT.of (s _ _ h1)) (atI_nat e1) ?_)
        walk_at "go"
        refine .inr (r_ixT (SqT.of (s _ _ g1)) (atI_nat e2) ?_)
        walk_at "go"
        obtain ⟨d, ed, hd⟩ := h2.get e1
        obtain ⟨d', ed', hd'⟩ := g2.get e2
        rw [ed] at ed'
        cases ed'
        exact ⟨_, _, d, rfl, hd.same s, hd'.same s, hn.2 d (List.mem_of_getElem? ed), q⟩
      · walk_at "go"
        refine ⟨D, List.replicate ys.length true, rfl, SqL.of ?_, ?_⟩
        · rw [hD, List.map_replicate]
          unfold sel
          rw [List.filter_eq_self.mpr (fun _ _ => rfl), List.map_const', List.length_range]
        · rw [show (List.replicate ys.length true).all id = true by simp [List.all_replicate]]
          exact k H2 s
/-- at every depth -/
theorem has__law_equal (B : BI mg) {f : Addr} {fd : FuncData} (F : Fun K "_law_equal" "_law_equal" s__law_equal f fd) (m : mg "_law_equal" = some (.ref f)) (b : Binds K fd ["_law_actual", "_law_expected"] []) :
    ∀ n, Has P w K mg base (n + 1) "_law_equal" ["_law_actual", "_law_expected"] (sp__law_equal n)
  | 0 => has_of F m b (ok__law_equal (n := 0) B ⟨f, fd, ⟨fun _ _ _ _ h => h.elim, fun _ _ _ _ _ _ _ _ _ _ _ _ _ h => h.elim⟩, m, F.kp, b⟩ F)
  | n + 1 => has_of F m b (ok__law_equal (n := n + 1) B (has__law_equal B F m b n) F)
/-- the same data -/
theorem eq_go {n : Nat} {H : Hp} {Q : VK} {E : XK} {x y : V} {d : PyData} (hx : Dt H x d) (hy : Dt H y d) (hn : Dn n d) (k : ∀ H', Same H H' → Q (.bl true) H') : sp__law_equal n [x, y] H Q E := ⟨x, y, d, rfl, hx, hy, hn, k⟩

def sp_is_integer : Sp := fun vs H Q _ => ∃ (v : V) (T : Kd), vs = [v] ∧ kd H v = some T ∧ Q (.bl (decide (T = .int))) H
theorem sc_is_integer : FnScope ["value"] ["value"] (defScope s_is_integer) := ⟨rfl, rfl, rfl, by decide +kernel, rfl, by decide +kernel, by decide +kernel⟩
theorem ok_is_integer (B : BI mg) {f : Addr} {fd : FuncData} (F : Fun K "is_integer" "is_integer" s_is_integer f fd) : FnOk P w K mg base (L2.CX P w) 1 f fd ["value"] (sp_is_integer) := by
  refine okN F sc_is_integer (fun vs H Q E h => ?_) (fun cdv A outer s H vs Q E hr h => ?_)
  · obtain ⟨v, T, rfl, _⟩ := h; rfl
  · obtain ⟨v, T, rfl, hv, k⟩ := h
    refine r_body (pss_one (ps_ret (pe_and (pe_callB (isiK K) (by rfl) B.isinstance PyProof.Rows.boot_isinstance (pa_cons (pv 0) (pa_cons (pe_bltn (v := .ty "int") (by rfl) B.int PyProof.Rows.boot_int rfl) pa_nil))) (pe_one (pe_not (pe_callB (isiK K) (by rfl) B.isinstance PyProof.Rows.boot_isinstance (pa_cons (pv 0) (pa_cons (pe_bltn (v := .ty "bool") (by rfl) B.bool PyProof.Rows.boot_bool rfl) pa_nil)))))))) (by walk_at "nst") ?_
    walk_at "go"
    cases T <;> (walk_at "go"; exact k)

-- needs: is_integer
def sp_is_from : Sp := fun vs H Q _ => ∃ (v : V) (lo hi : Int) (T : Kd), vs = [v, .int lo, .int hi] ∧ kd H v = some T ∧ Q (.bl (isFrom v lo hi)) H
theorem sc_is_from : FnScope ["value", "low", "high"] ["value", "low", "high"] (defScope s_is_from) := ⟨rfl, rfl, rfl, by decide +kernel, rfl, by decide +kernel, by decide +kernel⟩
theorem ok_is_from (B : BI mg) (h_is_integer : Has P w K mg base 1 "is_integer" ["value"] sp_is_integer) {f : Addr} {fd : FuncData} (F : Fun K "is_from" "is_from" s_is_from f fd) : FnOk P w K mg base (L2.CX P w) 2 f fd ["value", "low", "high"] (sp_is_from) := by
  refine okN F sc_is_from (fun vs H Q E h => ?_) (fun cdv A outer s H vs Q E hr h => ?_)
  · obtain ⟨v, lo, hi, T, rfl, _⟩ := h; rfl
  · obtain ⟨v, lo, hi, T, rfl, hv, k⟩ := h
    refine r_body (pss_one (ps_ret (pe_and (pe_h h_is_integer (hr.mono (by omega)) (pa_cons (pv 0) pa_nil)) (pe_one (pe_chain op_le op_le (pv 1) (pv 0) (pv 2)))))) (by walk_at "nst") ?_
    walk_at "go"
    refine ⟨v, T, rfl, hv, ?_⟩
    walk_at "go"
    cases v with
    | int n =>
      cases hv
      have k' : Q (.bl (decide (lo ≤ n) && decide (n ≤ hi))) H := k
      walk_at "go"
      by_cases c : lo ≤ n
      · walk_at "dec"
        walk_at "go"
        rw [decide_eq_true c] at k'
        exact k'
      · walk_at "dec"
        rw [decide_eq_false c] at k'
        exact k'
    | ref a =>
      have e : decide (T = Kd.int) = false := by
        refine decide_eq_false fun z => ?_
        subst z
        simp only [kd] at hv
        split at hv <;> cases hv
      rw [e]
      exact iteF k
    | _ => first | (cases hv; done) | (cases hv; walk_at "go"; exact k)

-- needs: is_from
/-- may the i-th thing stand there, those ahead standing -/
def okNum (xs : List V) (i : Nat) : Bool := match xs[i]? with
  | some x => isFrom x 1 12 && (i == 0 || (match x, xs[i - 1]? with | .int n, some (.int m) => decide (m < n) | _, _ => false))
  | none => false
theorem okNum_valid {S : List Nat} (h : Th.ValidS S) {i : Nat} (hi : i < S.length) : okNum (S.map vN) i = true := by
  unfold okNum
  rw [vN_at hi]
  have h1 := h.rng S[i] (List.getElem_mem hi)
  have e1 : isFrom (vN S[i]) 1 12 = true := by
    show (decide (_ ≤ _) && decide (_ ≤ _)) = true
    rw [Bool.and_eq_true, decide_eq_true_eq, decide_eq_true_eq]
    omega
  cases i with
  | zero => simp only [e1]; rfl
  | succ j =>
    have hj : j < S.length := by omega
    simp only [e1, Nat.add_sub_cancel, vN_at hj]
    have hlt : S[j] < S[j + 1] := List.pairwise_iff_getElem.mp h.asc j (j + 1) hj hi (Nat.lt_succ_self j)
    have : decide ((S[j] : Int) < (S[j + 1] : Int)) = true := decide_eq_true (by omega)
    simp only [this, Bool.or_true, Bool.and_true]
/-- BadNumbers(y) -/
abbrev xBN (E : XK) (C : Addr) (y : V) (H : Hp) : Prop := Xi E C "index" y H
def sp_check_numbers (C : Addr) : Sp := fun vs H Q E => ∃ (v : V) (T : Kd), vs = [v] ∧ kd H v = some T ∧
  ((T ≠ .tup ∧ xBN E C .non H) ∨ ∃ (a : Addr) (xs : List V), v = .ref a ∧ H a = some (.tup xs) ∧ (∀ x ∈ xs, ∃ k, kd H x = some k) ∧
    ((¬ (1 ≤ xs.length ∧ xs.length ≤ 6) ∧ xBN E C .non H) ∨ ((1 ≤ xs.length ∧ xs.length ≤ 6) ∧ ((∃ i, i < xs.length ∧ (∀ j, j < i → okNum xs j = true) ∧ okNum xs i = false ∧ ∀ H', Same H H' → xBN E C (.int (i : Int)) H') ∨
      ((∀ i, i < xs.length → okNum xs i = true) ∧ ∀ H', Same H H' → Q .non H')))))
theorem sc_check_numbers : FnScope ["numbers", "index", "number"] ["numbers"] (defScope s_check_numbers) := ⟨rfl, rfl, rfl, by decide +kernel, rfl, by decide +kernel, by decide +kernel⟩
theorem ok_check_numbers (B : BI mg) {C : Addr} (g_MOST_NUMBER : GC mg "MOST_NUMBER" (.int 12)) (g_MOST_NUMBERS : GC mg "MOST_NUMBERS" (.int 6)) (x_BadNumbers : X1 P w K mg base "BadNumbers" "index" C) (h_is_from : Has P w K mg base 2 "is_from" ["value", "low", "high"] sp_is_from) {f : Addr} {fd : FuncData} (F : Fun K "check_numbers" "check_numbers" s_check_numbers f fd) : FnOk P w K mg base (L2.CX P w) 3 f fd ["numbers"] (sp_check_numbers C) := by
  refine F.okX sc_check_numbers (fun vs H Q E h => ?_) (fun cdv A outer s H vs Q E hr h => ?_)
  · obtain ⟨v, T, rfl, _⟩ := h; rfl
  · obtain ⟨v, T, rfl, hv, hh⟩ := h
    refine r_body (pss_cons (ps_if (PW.pt (pw_or (pt_not (pt_val (pe_callB (isiK K) (by rfl) B.isinstance PyProof.Rows.boot_isinstance (pa_cons (pv 0) (pa_cons (pe_bltn (v := .ty "tuple") (by rfl) B.tuple PyProof.Rows.boot_tuple rfl) pa_nil))))) (pw_or1 (pt_not (pt_chain op_le op_le pe_int (pe_callB (lenK K) (by rfl) B.len boot_len (pa_cons (pv 0) pa_nil)) (pe_g g_MOST_NUMBERS))))))
      (pss_one (ps_raise rfl (takes_of rfl rfl rfl rfl) (pmk_x x_BadNumbers (hr.mono (by omega)) pe_non))) pss_nil)
      (pss_one (ps_for (passes_of rfl) rfl (piET K (by rfl) B.enumerate (pa_cons (pv 0) pa_nil)) (pgT K rfl (pgs_cons (pg_name (i := 1) sc_check_numbers.nd rfl (Or.inl rfl)) (pgs_cons (pg_name (i := 2) sc_check_numbers.nd rfl (Or.inl rfl)) pgs_nil)))
      (pss_one (ps_if (PW.pt (pw_or (pt_not (pt_val (pe_h h_is_from (hr.mono (by omega)) (pa_cons (pv 2) (pa_cons pe_int (pa_cons (pe_g g_MOST_NUMBER) pa_nil)))))) (pw_or1 (PW.pt (pw_and (pt_cmpR op_gt (pv 1) pe_int (nomark _)) (pw_and1 (pt_cmpR op_le (pv 2) (pe_ix (ixT K) (pv 0) (pe_op op_sub (pv 1) pe_int) (fun _ _ => rfl)) (nomark _))))))))
      (pss_one (ps_raise rfl (takes_of rfl rfl rfl rfl) (pmk_x x_BadNumbers (hr.mono (by omega)) (pv 1)))) pss_nil))))) (by walk_at "nst") ?_
    walk_at "go"
    rcases hh with ⟨hT, hx⟩ | ⟨a, xs, rfl, ha, hk, hh⟩
    · have e : T.is Kd.tup = false := by cases T <;> first | rfl | exact absurd rfl hT
      rw [e]
      walk_at "go"
      exact hx
    · have eT : T = Kd.tup := by
        rw [kd_tup ha] at hv
        exact (Option.some.inj hv).symm
      subst eT
      walk_at "go"
      rcases hh with ⟨hl, hx⟩ | ⟨hl, hh⟩
      · by_cases c : (1 : Int) ≤ (xs.length : Int)
        · walk_at "dec"
          walk_at "go"
          have c2 : ¬ (xs.length : Int) ≤ 6 := by omega
          rw [decide_eq_false c2]
          walk_at "go"
          exact hx
        · walk_at "dec"
          walk_at "go"
          exact hx
      · walk_at "dec"
        walk_at "go"
        rw [decide_eq_true (show (xs.length : Int) ≤ 6 by omega)]
        walk_at "go"
        refine e_enumT (SqT.of ha) (fun i σ H' => Same H H' ∧ (∃ y z, σ = [some (.ref a), y, z]) ∧ ∀ j, j < i → okNum xs j = true) ⟨Same.refl H, ⟨_, _, rfl⟩, fun j hj => absurd hj (Nat.not_lt_zero j)⟩
          (fun i σ H' _ hp => SqT.of (hp.1 _ _ ha)) ?_ ?_
        · rintro i x σ H' p hi ⟨sm, ⟨y, z, rfl⟩, hok⟩ np
          have hil := (List.getElem?_eq_some_iff.mp hi).1
          have smp : Same H (upd H' p (.tup [.int (i : Int), x])) := sm.trans (same_new np)
          obtain ⟨k, hkx⟩ := hk x (List.mem_of_getElem? hi)
          walk_at "go"
          refine ⟨x, 1, 12, k, rfl, kd_same hkx smp, ?_⟩
          walk_at "go"
          -- is this one right
          have bad : okNum xs i = false → xBN E C (.int (i : Int)) (upd H' p (.tup [.int (i : Int), x])) := fun hb => by
            rcases hh with ⟨i', hi', hj, hf, hx⟩ | ⟨hall, _⟩
            · have e : i' = i := by
                rcases Nat.lt_trichotomy i' i with h | h | h
                · rw [hok i' h] at hf; cases hf
                · exact h
                · rw [hj i h] at hb; cases hb
              subst e
              exact hx _ smp
            · rw [hall i hil] at hb; cases hb
          have good : okNum xs i = true → Same H (upd H' p (.tup [.int (i : Int), x])) ∧ (∃ y z, ([some (V.ref a), some (V.int (i : Int)), some x] : L2.St) = [some (.ref a), y, z]) ∧ ∀ j, j < i + 1 → okNum xs j = true := fun hg => by
            refine ⟨smp, ⟨_, _, rfl⟩, fun j hj => ?_⟩
            rcases Nat.lt_or_eq_of_le (Nat.le_of_lt_succ hj) with h | h
            · exact hok j h
            · rw [h]; exact hg
          unfold okNum at bad good
          rw [hi] at bad good
          cases e1 : isFrom x 1 12 with
          | false =>
            walk_at "go"
            exact bad (by simp only [e1, Bool.false_and])
          | true =>
            walk_at "go"
            cases i with
            | zero =>
              walk_at "dec"
              walk_at "go"
              exact good (by simp only [e1]; rfl)
            | succ j =>
              walk_at "dec"
              walk_at "go"
              obtain ⟨n, rfl⟩ : ∃ n, x = .int n := by
                cases x <;> first | exact ⟨_, rfl⟩ | cases e1
              have hjl : j < xs.length := by omega
              have hg := hok j (Nat.lt_succ_self j)
              obtain ⟨m, hm⟩ : ∃ m, xs[j]? = some (.int m) := by
                unfold okNum at hg
                rw [List.getElem?_eq_getElem hjl] at hg ⊢
                simp only [Bool.and_eq_true] at hg
                have h1 := hg.1
                generalize xs[j] = q at h1
                cases q <;> first | exact ⟨_, rfl⟩ | cases h1
              have ej : ((j + 1 : Nat) : Int) - 1 = (j : Int) := by omega
              rw [ej]
              refine r_ixT (SqT.of (smp _ _ ha)) (atI_nat hm) ?_
              walk_at "go"
              simp only [Nat.add_sub_cancel, hm, e1, Bool.true_and] at bad good
              have z0 : (j + 1 == 0) = false := rfl
              rw [z0, Bool.false_or] at bad good
              by_cases c : n ≤ m
              · rw [decide_eq_true c]
                walk_at "go"
                exact bad (decide_eq_false (by omega))
              · rw [decide_eq_false c]
                walk_at "go"
                exact good (decide_eq_true (by omega))
        · rintro σ H' ⟨sm, ⟨y, z, rfl⟩, hok⟩
          rcases hh with ⟨i', hi', hj, hf, hx⟩ | ⟨hall, hq⟩
          · rw [hok i' hi'] at hf; cases hf
          · exact hq H' sm
theorem cn_good {C : Addr} {a : Addr} {S : List Nat} {H : Hp} {Q : VK} {E : XK} (ha : H a = some (.tup (S.map vN))) (hS : Th.ValidS S) (k : ∀ H', Same H H' → Q .non H') : sp_check_numbers C [.ref a] H Q E := by
  refine ⟨.ref a, .tup, rfl, kd_tup ha, .inr ⟨a, S.map vN, rfl, ha, fun x hx => ?_, .inr ⟨⟨?_, ?_⟩, .inr ⟨fun i hi => ?_, k⟩⟩⟩⟩
  · obtain ⟨n, _, rfl⟩ := List.mem_map.mp hx
    exact ⟨.int, rfl⟩
  · rw [List.length_map]
    exact List.length_pos_iff.mpr hS.ne
  · rw [List.length_map]; exact hS.len
  · rw [List.length_map] at hi
    exact okNum_valid hS hi
theorem cn_mono {C : Addr} {v : V} {H : Hp} {Q Q' : VK} {E : XK} (h : sp_check_numbers C [v] H Q E) (k : ∀ v H', Q v H' → Q' v H') : sp_check_numbers C [v] H Q' E := by
  obtain ⟨w, T, e, hv, hh⟩ := h
  refine ⟨w, T, e, hv, ?_⟩
  rcases hh with hh | ⟨a, xs, ev, ha, hk, hh⟩
  · exact .inl hh
  · refine .inr ⟨a, xs, ev, ha, hk, ?_⟩
    rcases hh with hh | ⟨hl, hh⟩
    · exact .inl hh
    · refine .inr ⟨hl, ?_⟩
      rcases hh with hh | ⟨h1, h2⟩
      · exact .inl hh
      · exact .inr ⟨h1, fun H' s => k _ _ (h2 H' s)⟩

-- needs: is_from
def sp_check_size (C : Addr) : Sp := fun vs H Q E => ∃ (v : V) (lo hi : Int) (T : Kd), vs = [v, .int lo, .int hi] ∧ kd H v = some T ∧ (isFrom v lo hi = true → Q .non H) ∧ (isFrom v lo hi = false → E (.ref C) none H)
theorem sc_check_size : FnScope ["size", "low", "high"] ["size", "low", "high"] (defScope s_check_size) := ⟨rfl, rfl, rfl, by decide +kernel, rfl, by decide +kernel, by decide +kernel⟩
theorem ok_check_size (B : BI mg) {C : Addr} (x_BadSize : X0 K mg "BadSize" C) (h_is_from : Has P w K mg base 2 "is_from" ["value", "low", "high"] sp_is_from) {f : Addr} {fd : FuncData} (F : Fun K "check_size" "check_size" s_check_size f fd) : FnOk P w K mg base (L2.CX P w) 3 f fd ["size", "low", "high"] (sp_check_size C) := by
  refine F.okX sc_check_size (fun vs H Q E h => ?_) (fun cdv A outer s H vs Q E hr h => ?_)
  · obtain ⟨v, lo, hi, T, rfl, _⟩ := h; rfl
  · obtain ⟨v, lo, hi, T, rfl, hv, k, kx⟩ := h
    refine r_body (pss_one (ps_if (pt_not (pt_val (pe_h h_is_from (hr.mono (by omega)) (pa_cons (pv 0) (pa_cons (pv 1) (pa_cons (pv 2) pa_nil))))))
      (pss_one (ps_raise rfl (takes_of rfl rfl rfl rfl) (pmk_x0 x_BadSize))) pss_nil)) (by walk_at "nst") ?_
    walk_at "go"
    refine ⟨v, lo, hi, T, rfl, hv, ?_⟩
    walk_at "go"
    cases e : isFrom v lo hi with
    | true => walk_at "go"; exact k e
    | false => walk_at "go"; exact kx e

def sp_least_missing (K : PySem.W.Frag) : Sp := fun vs H Q _ => ∃ (a : Addr) (ws : List Nat), vs = [.ref a] ∧ SqL K H a (ws.map vN) ∧ Q (vN (Th.mex ws)) H
theorem sc_least_missing : FnScope ["some", "found"] ["some"] (defScope s_least_missing) := ⟨rfl, rfl, rfl, by decide +kernel, rfl, by decide +kernel, by decide +kernel⟩
theorem ok_least_missing (B : BI mg) {f : Addr} {fd : FuncData} (F : Fun K "least_missing" "least_missing" s_least_missing f fd) : FnOk P w K mg base (L2.CX P w) 1 f fd ["some"] (sp_least_missing K) := by
  refine okN F sc_least_missing (fun vs H Q E h => ?_) (fun cdv A outer s H vs Q E hr h => ?_)
  · obtain ⟨a, ws, rfl, _⟩ := h; rfl
  · obtain ⟨a, ws, rfl, ha, k⟩ := h
    refine r_body (pss_cons (ps_set (i := 1) sc_least_missing.nd rfl (Or.inl rfl) pe_int)
      (pss_cons (ps_while PassesOwn.never (pt_cmpR (inS K) (pv 1) (pv 0) (by rfl))
      (pss_one (ps_aug (i := 1) sc_least_missing.nd rfl (Or.inl rfl) pe_int ip_add)))
      (pss_one (ps_ret (pv 1))))) (by walk_at "nst") ?_
    walk_at "go"
    refine r_while (fun m σ H' => ∃ n : Nat, σ = [some (.ref a), some (vN n)] ∧ H' = H ∧ n ≤ Th.mex ws ∧ m = Th.mex ws - n) _ ⟨0, rfl, rfl, Nat.zero_le _, rfl⟩ ?_
    rintro m σ H' ⟨n, rfl, rfl, hn, rfl⟩
    walk_at "go"
    refine r_inLN ha ?_
    walk_at "go"
    by_cases c : n ∈ ws
    · walk_at "dec"
      have hlt : n < Th.mex ws := Nat.lt_of_le_of_ne hn fun e => Th.mex_not ws (e ▸ c)
      refine ⟨_, fun _ _ h => h, ?_⟩
      walk_at "go"
      exact ⟨Th.mex ws - (n + 1), by omega, n + 1, by simp, rfl, hlt, rfl⟩
    · walk_at "dec"
      walk_at "go"
      have e : n = Th.mex ws := by
        rcases Nat.lt_or_eq_of_le hn with q | q
        · exact absurd (Th.mex_lt q) c
        · exact q
      rw [e]
      exact k

-- needs: check_numbers check_size least_missing
def sp_but_worths (CN CS : Addr) : Sp := fun vs H Q E => ∃ (v z : V), vs = [v, z] ∧ (sp_check_numbers CN [v] H (fun _ _ => False) E ∨ ∃ (a : Addr) (S : List Nat) (T : Kd), v = .ref a ∧ NumsAt H a S ∧ kd H z = some T ∧
  ((isFrom z 0 400 = false ∧ ∀ H', Same H H' → E (.ref CS) none H') ∨ ∃ n : Nat, z = vN n ∧ n ≤ 400 ∧ ∀ p H', H p = none → Same H H' → H' p = some (.lst ((Th.bw S (n + 1)).map vN)) → Q (.ref p) H'))
theorem sc_but_worths : FnScope ["numbers", "size", "found", "heap", "number"] ["numbers", "size"] (defScope s_but_worths) := ⟨rfl, rfl, rfl, by decide +kernel, rfl, by decide +kernel, by decide +kernel⟩
theorem ok_but_worths (B : BI mg) {CN CS : Addr} (g_MOST_TOLD : GC mg "MOST_TOLD" (.int 400)) (h_check_numbers : Has P w K mg base 3 "check_numbers" ["numbers"] (sp_check_numbers CN)) (h_check_size : Has P w K mg base 3 "check_size" ["size", "low", "high"] (sp_check_size CS)) (h_least_missing : Has P w K mg base 1 "least_missing" ["some"] (sp_least_missing K)) {f : Addr} {fd : FuncData} (F : Fun K "but_worths" "but_worths" s_but_worths f fd) : FnOk P w K mg base (L2.CX P w) 4 f fd ["numbers", "size"] (sp_but_worths CN CS) := by
  refine F.okX sc_but_worths (fun vs H Q E h => ?_) (fun cdv A outer s H vs Q E hr h => ?_)
  · obtain ⟨v, z, rfl, _⟩ := h; rfl
  · obtain ⟨v, z, rfl, hh⟩ := h
    refine r_body (pss_cons (ps_expr (pe_hx h_check_numbers (hr.mono (by omega)) (takes_of rfl rfl rfl rfl) (pa_cons (pv 0) pa_nil)))
      (pss_cons (ps_expr (pe_hx h_check_size (hr.mono (by omega)) (takes_of rfl rfl rfl rfl) (pa_cons (pv 1) (pa_cons pe_int (pa_cons (pe_g g_MOST_TOLD) pa_nil)))))
      (pss_cons (ps_set (i := 2) sc_but_worths.nd rfl (Or.inr rfl) (pe_lst pa_nil))
      (pss_cons (ps_for (passes_of rfl) rfl (pi_range1 (by rfl) B.range (pa_cons (pe_op op_add (pv 1) pe_int) pa_nil)) (pg_name (i := 3) sc_but_worths.nd rfl (Or.inr rfl))
      (pss_one (ps_expr (bmK K PySem.F.plainAttrs_list PySem.F.slot_list_append PySem.F.type_list_append mt_append (pv 2) (pa_cons (pe_h h_least_missing (hr.mono (by omega)) (pa_cons (pe_lc (own := [("number", 4)]) rfl sc_but_worths.nd (pi_range2 (by rfl) B.range (pa_cons pe_int (pa_cons (pe_op op_add (pv 3) pe_int) pa_nil))) (blkOk_by (own := [("number", 4)]) (N := ["numbers", "size", "found", "heap", "number"]) (sc := defScope s_but_worths) (by decide +kernel)) (fun _ _ _ _ _ => (pg_name (i := 4) sc_but_worths.nd rfl (Or.inl rfl))) (fun _ _ _ _ _ => (pts_one (pt_cmpR (ninS K) (pv 4) (pv 0) (by rfl)))) (fun _ _ _ _ _ => (pe_ix (ixL K) (pv 2) (pe_op op_sub (pv 3) (pv 4)) (fun _ _ => rfl)))) pa_nil)) pa_nil)))))
      (pss_one (ps_ret (pv 2))))))) (by walk_at "nst") ?_
    walk_at "go"
    rcases hh with hh | ⟨a, S, T, rfl, ha, hz, hh⟩
    · exact cn_mono hh fun _ _ q => q.elim
    · refine cn_good ha.at_ ha.ok fun H1 s1 => ?_
      walk_at "go"
      refine ⟨z, 0, 400, T, rfl, kd_same hz s1, fun e => ?_, fun e => ?_⟩
      · rcases hh with ⟨e', _⟩ | ⟨n, rfl, hn, k⟩
        · rw [e'] at e; cases e
        walk_at "go"
        refine r_new (by simp) fun p hp => ?_
        walk_at "go"
        have s2 : Same H (upd H1 p (.lst [])) := s1.trans (same_new hp)
        have hpH : H p = none := s1.free hp
        refine e_forR1 (n := n + 1) (by omega) (by omega) (fun i σ H' => (∃ y, σ = [some (.ref a), some (vN n), some (.ref p), y, none]) ∧ Same H H' ∧ H' p = some (.lst ((Th.bw S i).map vN))) ⟨⟨_, rfl⟩, s2, upd_same⟩ ?_ ?_
        · rintro i σ H' hi ⟨⟨y, rfl⟩, s3, hp3⟩
          have hlen := Th.bw_length S i
          walk_at "go"
          refine ⟨tyL hp3, ?_⟩
          walk_at "go"
          refine e_lcR2 (lo := 1) (n := i) rfl (.inl (by omega)) (by omega) (fun k => !decide (1 + k ∈ S)) (fun k => vN ((Th.bw S i).getD (i - (1 + k)) 0)) (fun x => rfl) (fun k H2 hk s4 QB q => ?_) (fun k H2 hk hf s4 Q q => ?_) (fun D H2 nD s4 hD => ?_)
          · walk_at "go"
            refine r_ninTN (SqT.of ((s3.trans s4) _ _ ha.at_)) ?_
            walk_at "go"
            exact q H2 (Same.refl H2)
          · walk_at "go"
            refine r_ixLN (j := i - (1 + k)) (hj := by omega) (SqL.of (s4 _ _ hp3)) (by omega) ?_
            rw [← getD_of]
            exact q H2 (Same.refl H2)
          · rw [sel_nat] at hD
            walk_at "go"
            refine ⟨D, _, rfl, SqL.of hD, ?_⟩
            walk_at "go"
            refine r_append (s4 _ _ hp3) (by rw [List.length_map]; omega) ?_
            refine ⟨⟨_, rfl⟩, same_mut (s3.trans s4) hpH, ?_⟩
            rw [upd_same]
            show _ = some (HO.lst ((Th.bw S i ++ [Th.mex (Th.bwOpts S (Th.bw S i))]).map vN))
            rw [List.map_append]
            unfold Th.bwOpts
            rw [hlen]
            rfl
        · rintro σ H' ⟨⟨y, rfl⟩, s3, hp3⟩
          walk_at "go"
          exact k p H' hpH s3 hp3
      · rcases hh with ⟨_, hx⟩ | ⟨n, rfl, hn, _⟩
        · exact hx H1 s1
        · rw [isFrom_yes (by omega) (by omega)] at e
          cases e

-- needs: but_worths
def sp__law_told : Sp := fun vs H Q _ => ∃ (a : Addr) (S : List Nat) (z : V) (T : Kd), vs = [.ref a, z] ∧ NumsAt H a S ∧ kd H z = some T ∧ isFrom z 0 400 = false ∧ ∀ H', Same H H' → Q (.bl true) H'
theorem sc__law_told : FnScope ["_law_numbers_so", "_law_value", "_law_found"] ["_law_numbers_so", "_law_value"] (defScope s__law_told) := ⟨rfl, rfl, rfl, by decide +kernel, rfl, by decide +kernel, by decide +kernel⟩
theorem ok__law_told (B : BI mg) {CN CS : Addr} (x_BadSize : X0 K mg "BadSize" CS) (h_but_worths : Has P w K mg base 4 "but_worths" ["numbers", "size"] (sp_but_worths CN CS)) {f : Addr} {fd : FuncData} (F : Fun K "_law_told" "_law_told" s__law_told f fd) : FnOk P w K mg base (L2.CX P w) 5 f fd ["_law_numbers_so", "_law_value"] (sp__law_told) := by
  refine okN F sc__law_told (fun vs H Q E h => ?_) (fun cdv A outer s H vs Q E hr h => ?_)
  · obtain ⟨a, S, z, T, rfl, _⟩ := h; rfl
  · obtain ⟨a, S, z, T, rfl, ha, hz, hb, k⟩ := h
    refine r_body (pss_cons (ps_set (i := 2) sc__law_told.nd rfl (Or.inl rfl) pe_bl)
      (pss_cons (ps_try_only rfl rfl ⟨rfl, by decide, .inl x_BadSize.gC⟩ takes0 (fun W pn xe tk _ => (pss_one (ps_expr (by exact (pe_hs h_but_worths (hr.mono (by omega)) tk (pa_cons (pv 0) (pa_cons (pv 1) pa_nil))))))) (fun a oe cls d pn _ _ => (pss_one (ps_set (i := 2) sc__law_told.nd rfl (Or.inl rfl) pe_bl))))
      (pss_one (ps_ret (pv 2))))) (by walk_at "nst") ?_
    walk_at "go"
    refine ⟨.ref a, z, rfl, .inr ⟨a, S, T, rfl, ha, hz, .inl ⟨hb, fun H' s => ?_⟩⟩⟩
    refine ⟨true, x_BadSize.te, fun _ a _ => ?_, fun q => Bool.noConfusion q⟩
    walk_at "go"
    exact k H' s

-- needs: _law_random _law_below _law_numbers _law_equal but_worths k06__law_told
-- has _law_equal := has__law_equal (P := P) (w := w) (base := base) B F__law_equal (PySem.W.mg_of X G a__law_equal) b__law_equal 1
def sp_law (K : PySem.W.Frag) : Sp := fun vs H Q _ => ∃ (a : Addr) (ns : List Int), vs = [.ref a] ∧ SqL K H a (ns.map V.int) ∧ ns.length ≤ 63 ∧ ∀ H', Q (.bl true) H'
theorem sc_law : FnScope ["_law_script", "_law_d", "_law_some", "_law_size", "_law_told_here", "_law_heap", "_law_later", "_law_rest", "_law_one", "_law_value"] ["_law_script"] (defScope s_law) := ⟨rfl, rfl, rfl, by decide +kernel, rfl, by decide +kernel, by decide +kernel⟩
theorem ok_law (B : BI mg) {CN CS : Addr} (h__law_random : Has P w K mg base 1 "_law_random" ["_law_script", "_law_salt"] (sp__law_random K)) (h__law_below : Has P w K mg base 1 "_law_below" ["_law_d", "_law_size"] sp__law_below) (h__law_numbers : Has P w K mg base 2 "_law_numbers" ["_law_d", "_law_most", "_law_many"] sp__law_numbers) (h__law_equal : Has P w K mg base 2 "_law_equal" ["_law_actual", "_law_expected"] (sp__law_equal 1)) (h_but_worths : Has P w K mg base 4 "but_worths" ["numbers", "size"] (sp_but_worths CN CS)) (h__law_told : Has P w K mg base 5 "_law_told" ["_law_numbers_so", "_law_value"] sp__law_told) {f : Addr} {fd : FuncData} (F : Fun K "law" "law" s_law f fd) : FnOk P w K mg base (L2.CX P w) 6 f fd ["_law_script"] (sp_law K) := by
  refine okN F sc_law (fun vs H Q E h => ?_) (fun cdv A outer s H vs Q E hr h => ?_)
  · obtain ⟨a, ns, rfl, _⟩ := h; rfl
  · obtain ⟨a, ns, rfl, ha, hl, k⟩ := h
    refine r_body (pss_cons (ps_set (i := 1) sc_law.nd rfl (Or.inl rfl) (pe_h h__law_random (hr.mono (by omega)) (pa_cons (pv 0) (pa_cons pe_int pa_nil))))
      (pss_cut (ps_asg (pe_tup (pa_cons (pe_h h__law_numbers (hr.mono (by omega)) (pa_cons (pv 1) (pa_cons pe_int (pa_cons pe_int pa_nil)))) (pa_cons (pe_ifExp (pt_cmpR op_gt (pe_h h__law_below (hr.mono (by omega)) (pa_cons (pv 1) (pa_cons pe_int pa_nil))) pe_int (nomark _)) (pe_h h__law_below (hr.mono (by omega)) (pa_cons (pv 1) (pa_cons pe_int pa_nil))) pe_int) pa_nil))) (pgT K rfl (pgs_cons (pg_name (i := 2) sc_law.nd rfl (Or.inr rfl)) (pgs_cons (pg_name (i := 3) sc_law.nd rfl (Or.inl rfl)) pgs_nil))))
      (pss_cons (ps_set (i := 4) sc_law.nd rfl (Or.inr rfl) (pe_lst pa_nil))
      (pss_cons (ps_for PassesOwn.never rfl (pi_range1 (by rfl) B.range (pa_cons (pe_op op_add (pv 3) pe_int) pa_nil)) (pg_name (i := 5) sc_law.nd rfl (Or.inr rfl))
      (pss_cons (ps_set (i := 6) sc_law.nd rfl (Or.inr rfl) (pe_lc (own := [("_law_rest", 7)]) rfl sc_law.nd (pi_range1 (by rfl) B.range (pa_cons (pv 5) pa_nil)) (blkOk_by (own := [("_law_rest", 7)]) (N := ["_law_script", "_law_d", "_law_some", "_law_size", "_law_told_here", "_law_heap", "_law_later", "_law_rest", "_law_one", "_law_value"]) (sc := defScope s_law) (by decide +kernel)) (fun _ _ _ _ _ => (pg_name (i := 7) sc_law.nd rfl (Or.inl rfl))) (fun _ _ _ _ _ => (pts_one (pt_cmpR (ninS K) (pe_op op_sub (pv 5) (pv 7)) (pv 2) (by rfl)))) (fun _ _ _ _ _ => (pe_ix (ixL K) (pv 4) (pv 7) (fun _ _ => rfl)))))
      (pss_one (ps_expr (bmK K PySem.F.plainAttrs_list PySem.F.slot_list_append PySem.F.type_list_append mt_append (pv 4) (pa_cons (pe_callB (minK K rfl) (by rfl) B.min PyProof.Rows.boot_min (pa_cons (pe_lc (own := [("_law_one", 8)]) rfl sc_law.nd (pi_range1 (by rfl) B.range (pa_cons (pe_op op_add (pe_callB (lenK K) (by rfl) B.len boot_len (pa_cons (pv 6) pa_nil)) pe_int) pa_nil)) (blkOk_by (own := [("_law_one", 8)]) (N := ["_law_script", "_law_d", "_law_some", "_law_size", "_law_told_here", "_law_heap", "_law_later", "_law_rest", "_law_one", "_law_value"]) (sc := defScope s_law) (by decide +kernel)) (fun _ _ _ _ _ => (pg_name (i := 8) sc_law.nd rfl (Or.inl rfl))) (fun _ _ _ _ _ => (pts_one (pt_cmpR (ninS K) (pv 8) (pv 6) (by rfl)))) (fun _ _ _ _ _ => (pv 8))) pa_nil)) pa_nil))))))
      (pss_cons (ps_if (pt_not (pt_val (pe_h h__law_equal (hr.mono (by omega)) (pa_cons (pe_h h_but_worths (hr.mono (by omega)) (pa_cons (pv 2) (pa_cons (pv 3) pa_nil))) (pa_cons (pv 4) pa_nil)))))
      (pss_one (ps_ret pe_bl)) pss_nil)
      (pss_one (ps_ret (pe_cmpR (eqDK K hr.units) (pe_lc (own := [("_law_value", 9)]) rfl sc_law.nd (piL K (pe_lst (pa_cons pe_non (pa_cons (pe_un un_neg pe_int) (pa_cons pe_int (pa_cons pe_str (pa_cons pe_bl pa_nil))))))) (blkOk_by (own := [("_law_value", 9)]) (N := ["_law_script", "_law_d", "_law_some", "_law_size", "_law_told_here", "_law_heap", "_law_later", "_law_rest", "_law_one", "_law_value"]) (sc := defScope s_law) (by decide +kernel)) (fun _ _ _ _ _ => (pg_name (i := 9) sc_law.nd rfl (Or.inl rfl))) (fun _ _ _ _ _ => (pts_one (pt_not (pt_val (pe_h h__law_told (hr.mono (by omega)) (pa_cons (pv 2) (pa_cons (pv 9) pa_nil))))))) (fun _ _ _ _ _ => (pv 9))) (pe_lst pa_nil) (nomark _))))))))) (by walk_at "nst") ?_
    walk_at "go"
    refine ⟨a, ns, 2206, rfl, ha, hl, by decide, by decide, fun d H1 nd s1 d1 => ?_⟩
    walk_at "go"
    refine r_cut (fun σ H' => ∃ (p : Addr) (S : List Nat) (n : Nat), σ = [some (.ref a), some (.ref d), some (.ref p), some (vN n), none, none, none, none, none, none] ∧ NumsAt H' p S ∧ n ≤ 400) ?_ ?_
    · walk_at "go"
      refine ⟨d, 12, 6, rfl, d1, by decide, by decide, by decide, by decide, fun p S H2 np npd hp e1 e2 e3 e4 d2 k2 => ?_⟩
      have hS : Th.ValidS S := ⟨e1, e2, e3, e4⟩
      walk_at "go"
      refine ⟨d, 12, rfl, d2, by decide, by decide, fun r H3 hr d3 k3 => ?_⟩
      walk_at "go"
      have hp3 := k3 _ _ npd hp
      by_cases c : (0 : Int) < (r : Int)
      · walk_at "dec"
        walk_at "go"
        refine ⟨d, 50, rfl, d3, by decide, by decide, fun q H4 hq d4 k4 => ?_⟩
        walk_at "go"
        refine r_new (by simp) fun t ht => ?_
        walk_at "go"
        exact ⟨p, S, q, rfl, ⟨same_new ht _ _ (k4 _ _ npd hp3), hS⟩, by omega⟩
      · walk_at "dec"
        walk_at "go"
        refine r_new (by simp) fun t ht => ?_
        walk_at "go"
        exact ⟨p, S, 400, rfl, ⟨same_new ht _ _ hp3, hS⟩, by omega⟩
    · rintro σ H0 ⟨p, S, n, rfl, hp, hn⟩
      walk_at "go"
      refine r_new (by simp) fun l hl0 => ?_
      walk_at "go"
      refine e_forR1 (n := n + 1) (by omega) (by omega) (fun i σ H' => (∃ y z, σ = [some (.ref a), some (.ref d), some (.ref p), some (vN n), some (.ref l), y, z, none, none, none]) ∧ Same H0 H' ∧ H' l = some (.lst ((Th.bw S i).map vN))) ⟨⟨_, _, rfl⟩, same_new hl0, upd_same⟩ ?_ ?_
      · rintro i σ H' hi ⟨⟨y, z, rfl⟩, s3, hl3⟩
        have hlen := Th.bw_length S i
        walk_at "go"
        refine e_lcR1 (n := i) rfl (by omega) (fun r => !decide (i - r ∈ S)) (fun r => vN ((Th.bw S i).getD r 0)) (fun x => rfl) (fun r H2 hr s4 QB q => ?_) (fun r H2 hr hf s4 Q q => ?_) (fun D H2 nD s4 hD => ?_)
        · walk_at "go"
          rw [show (i : Int) - (r : Int) = ((i - r : Nat) : Int) by omega]
          refine r_ninTN (SqT.of ((s3.trans s4) _ _ hp.at_)) ?_
          walk_at "go"
          exact q H2 (Same.refl H2)
        · walk_at "go"
          refine r_ixLN (j := r) (hj := by omega) (SqL.of (s4 _ _ hl3)) rfl ?_
          rw [← getD_of]
          exact q H2 (Same.refl H2)
        · rw [sel_nat] at hD
          generalize hws : (((List.range i).filter fun r => !decide (i - r ∈ S)).map fun r => (Th.bw S i).getD r 0) = ws at hD
          have hmex : Th.mex ws = Th.mex (Th.bwOpts S (Th.bw S i)) := by
            have h := Th.bw_alt S (Th.bw S i)
            rw [hlen] at h
            rw [← hws]
            exact h
          have hwl : ws.length ≤ i := by
            rw [← hws, List.length_map]
            exact Nat.le_trans (List.length_filter_le _ _) (by rw [List.length_range]; exact Nat.le_refl _)
          walk_at "go"
          refine ⟨tyL (s4 _ _ hl3), ?_⟩
          walk_at "go"
          refine e_lcR1 (n := ws.length + 1) (by rw [List.length_map]; omega) (by omega) (fun k => !decide (k ∈ ws)) (fun k => vN k) (fun x => rfl) (fun r H3 hr s5 QB q => ?_) (fun r H3 hr hf s5 Q q => ?_) (fun E H3 nE s5 hE => ?_)
          · walk_at "go"
            refine r_ninLN (SqL.of (s5 _ _ hD)) ?_
            walk_at "go"
            exact q H3 (Same.refl H3)
          · walk_at "go"
            exact q H3 (Same.refl H3)
          · walk_at "go"
            refine r_minN (SqL.of hE) (Th.mex_pos (Nat.le_refl _)) fun m hm hle => ?_
            have em := Th.mex_min (Nat.le_refl _) hm hle
            walk_at "go"
            refine r_append (s5 _ _ (s4 _ _ hl3)) (by rw [List.length_map]; omega) ?_
            refine ⟨⟨_, _, rfl⟩, same_mut ((s3.trans s4).trans s5) hl0, ?_⟩
            rw [upd_same, em, hmex]
            show _ = some (HO.lst ((Th.bw S i ++ [_]).map vN))
            rw [List.map_append]
            rfl
      · rintro σ H' ⟨⟨y, z, rfl⟩, s3, hl3⟩
        have hp3 : NumsAt H' p S := hp.same s3
        walk_at "go"
        refine ⟨.ref p, vN n, rfl, .inr ⟨p, S, .int, rfl, hp3, rfl, .inr ⟨n, rfl, hn, fun q H4 nq s4 hq => ?_⟩⟩⟩
        walk_at "go"
        refine eq_go (.lst hq (dt_nats _)) (.lst (s4 _ _ hl3) (dt_nats _)) ⟨by rw [List.length_map, Th.bw_length]; omega, fun d hd => ?_⟩ fun H5 s5 => ?_
        · obtain ⟨m, _, rfl⟩ := List.mem_map.mp hd
          exact trivial
        walk_at "go"
        have hp5 : NumsAt H5 p S := (hp3.same s4).same s5
        refine r_new (by simp) fun e he => ?_
        walk_at "go"
        have hall : ∀ x ∈ ([.non, .int (-1), .int 401, .str (Str.ofString "3"), .bl true] : List V), ∀ H : Hp, ∃ T, kd H x = some T ∧ isFrom x 0 400 = false := by
          intro x hx H
          simp only [List.mem_cons, List.not_mem_nil, or_false] at hx
          rcases hx with rfl | rfl | rfl | rfl | rfl <;> exact ⟨_, rfl, rfl⟩
        refine e_lcL (SqL.of upd_same) (by simp) (fun _ => false) (fun _ => .non) (fun x => rfl) (fun i x H6 hi s6 QB q => ?_) (fun i x H6 hi hf s6 Q q => by cases hf) (fun D H6 nD s6 hD => ?_)
        · walk_at "go"
          obtain ⟨T, hT, hx⟩ := hall x (List.mem_of_getElem? hi) H6
          refine ⟨p, S, x, T, rfl, (hp5.same (same_new he)).same s6, hT, hx, fun H7 s7 => ?_⟩
          walk_at "go"
          exact q H7 s7
        · rw [sel_none] at hD
          walk_at "go"
          refine r_new (by simp) fun o ho => ?_
          refine r_eqD (.lst (same_new ho _ _ hD) .nil) (.lst upd_same .nil) rfl rfl ?_
          exact k _

end
theorem sc_BadNumbers___init__ : FnScope [("self" : Str), "index"] [("self" : Str), "index"] (defScope s_BadNumbers___init__) := ⟨rfl, rfl, rfl, by decide +kernel, rfl, by decide +kernel, by decide +kernel⟩
theorem all_fn {P : Program} {w : World} {K : PySem.W.Frag} {h base : Heap} {mg : Str → Option Value} (X : K.In h) (G : h.Ns mainGlobals mg)
    {C_BadNumbers : Addr}
    {nm_BadNumbers q_BadNumbers : Str} {N_BadNumbers : Addr} {bs_BadNumbers bm_BadNumbers : List Value} {sn_BadNumbers : List Str} {su_BadNumbers : List Value} {ab_BadNumbers : Bool} {co_BadNumbers : Option Bool} {dd_BadNumbers : Option Addr} {m0_BadNumbers m1_BadNumbers m2_BadNumbers m3_BadNumbers m5_BadNumbers : Option Value}
    {f_BadNumbers___init__ : Addr} {od_BadNumbers___init__ an_BadNumbers___init__ : Option Addr} {sl_BadNumbers___init__ : Array (Option Value)} {oc_BadNumbers___init__ kV_BadNumbers___init__ dc_BadNumbers___init__ pm_BadNumbers___init__ cd_BadNumbers___init__ ct_BadNumbers___init__ : Value}
    {C_BadSize : Addr}
    {t_MOST_NUMBER : Tok}
    {t_MOST_NUMBERS : Tok}
    {t_MOST_TOLD : Tok}
    {f__law_random : Addr} {od__law_random an__law_random : Option Addr} {sl__law_random : Array (Option Value)} {oc__law_random kV__law_random dc__law_random pm__law_random cd__law_random ct__law_random : Value}
    {f__law_below : Addr} {od__law_below an__law_below : Option Addr} {sl__law_below : Array (Option Value)} {oc__law_below kV__law_below dc__law_below pm__law_below cd__law_below ct__law_below : Value}
    {f__law_numbers : Addr} {od__law_numbers an__law_numbers : Option Addr} {sl__law_numbers : Array (Option Value)} {oc__law_numbers kV__law_numbers dc__law_numbers pm__law_numbers cd__law_numbers ct__law_numbers : Value}
    {f__law_equal : Addr} {od__law_equal an__law_equal : Option Addr} {sl__law_equal : Array (Option Value)} {oc__law_equal kV__law_equal dc__law_equal pm__law_equal cd__law_equal ct__law_equal : Value}
    {f_is_integer : Addr} {od_is_integer an_is_integer : Option Addr} {sl_is_integer : Array (Option Value)} {oc_is_integer kV_is_integer dc_is_integer pm_is_integer cd_is_integer ct_is_integer : Value}
    {f_is_from : Addr} {od_is_from an_is_from : Option Addr} {sl_is_from : Array (Option Value)} {oc_is_from kV_is_from dc_is_from pm_is_from cd_is_from ct_is_from : Value}
    {f_check_numbers : Addr} {od_check_numbers an_check_numbers : Option Addr} {sl_check_numbers : Array (Option Value)} {oc_check_numbers kV_check_numbers dc_check_numbers pm_check_numbers cd_check_numbers ct_check_numbers : Value}
    {f_check_size : Addr} {od_check_size an_check_size : Option Addr} {sl_check_size : Array (Option Value)} {oc_check_size kV_check_size dc_check_size pm_check_size cd_check_size ct_check_size : Value}
    {f_least_missing : Addr} {od_least_missing an_least_missing : Option Addr} {sl_least_missing : Array (Option Value)} {oc_least_missing kV_least_missing dc_least_missing pm_least_missing cd_least_missing ct_least_missing : Value}
    {f_but_worths : Addr} {od_but_worths an_but_worths : Option Addr} {sl_but_worths : Array (Option Value)} {oc_but_worths kV_but_worths dc_but_worths pm_but_worths cd_but_worths ct_but_worths : Value}
    {f__law_told : Addr} {od__law_told an__law_told : Option Addr} {sl__law_told : Array (Option Value)} {oc__law_told kV__law_told dc__law_told pm__law_told cd__law_told ct__law_told : Value}
    {f_law : Addr} {od_law an_law : Option Addr} {sl_law : Array (Option Value)} {oc_law kV_law dc_law pm_law cd_law ct_law : Value}
    (aC_BadNumbers : PySem.W.nsIn K mainGlobals "BadNumbers" = some (some (.ref C_BadNumbers)))
    (kC_BadNumbers : PySem.W.keepIn K (.ref C_BadNumbers) = true)
    (sb_BadNumbers : PySem.W.subIn K (.ref C_BadNumbers) (.type "BaseException") = some true)
    (ty_BadNumbers : PySem.W.typeIn K (.ref C_BadNumbers) = some (.type "type"))
    (ic_BadNumbers : PySem.W.isClsIn K C_BadNumbers = true)
    (ss_BadNumbers : PySem.W.subIn K (.ref C_BadNumbers) (.ref C_BadNumbers) = some true)
    (xL_BadNumbers : K.lookup C_BadNumbers = some (excClassObj nm_BadNumbers q_BadNumbers C_BadNumbers N_BadNumbers bs_BadNumbers bm_BadNumbers true sn_BadNumbers su_BadNumbers ab_BadNumbers co_BadNumbers dd_BadNumbers m0_BadNumbers m1_BadNumbers m2_BadNumbers m3_BadNumbers m5_BadNumbers "ValueError.__new__"))
    (bm_BadNumbers : PySem.HandSPX.refsVE bm_BadNumbers = true)
    (sa_BadNumbers : PySem.W.findIn K (.ref C_BadNumbers) "__setattr__" = some (some (.builtin "object.__setattr__")))
    (ga_BadNumbers : PySem.W.findIn K (.ref C_BadNumbers) "__getattribute__" = some (some (.builtin "BaseException.__getattribute__")))
    (gg_BadNumbers : PySem.W.findIn K (.ref C_BadNumbers) "__getattr__" = some none)
    (hd_BadNumbers : PySem.W.hasDictIn K C_BadNumbers = true)
    (nf_BadNumbers : PySem.W.findIn K (.ref C_BadNumbers) "index" = some none)
    (a_BadNumbers___init__ : PySem.W.findIn K (.ref C_BadNumbers) "__init__" = some (some (.ref f_BadNumbers___init__)))
    (l_BadNumbers___init__ : K.lookup f_BadNumbers___init__ = some ⟨oc_BadNumbers___init__, od_BadNumbers___init__, .func (PySem.W.fnOf "__init__" "BadNumbers.__init__" (defArgs s_BadNumbers___init__) (defBody s_BadNumbers___init__) (defScope s_BadNumbers___init__) .none kV_BadNumbers___init__ dc_BadNumbers___init__ pm_BadNumbers___init__ an_BadNumbers___init__ cd_BadNumbers___init__ ct_BadNumbers___init__), sl_BadNumbers___init__⟩)
    (c_BadNumbers___init__ : PySem.W.codeIn K cd_BadNumbers___init__ "BadNumbers.__init__" = true)
    (k_BadNumbers___init__ : PySem.W.keepIn K (.ref f_BadNumbers___init__) = true)
    (tI_BadNumbers : PySem.W.typeIn K (.ref f_BadNumbers___init__) = some (.type "function"))
    (aC_BadSize : PySem.W.nsIn K mainGlobals "BadSize" = some (some (.ref C_BadSize)))
    (kC_BadSize : PySem.W.keepIn K (.ref C_BadSize) = true)
    (sb_BadSize : PySem.W.subIn K (.ref C_BadSize) (.type "BaseException") = some true)
    (ty_BadSize : PySem.W.typeIn K (.ref C_BadSize) = some (.type "type"))
    (ic_BadSize : PySem.W.isClsIn K C_BadSize = true)
    (ss_BadSize : PySem.W.subIn K (.ref C_BadSize) (.ref C_BadSize) = some true)
    (ex_BadSize : PySem.W.excIn K C_BadSize veT "ValueError.__new__" = true)
    (v_MOST_NUMBER : PySem.W.nsIn K mainGlobals "MOST_NUMBER" = some (some (.int 12 t_MOST_NUMBER)))
    (v_MOST_NUMBERS : PySem.W.nsIn K mainGlobals "MOST_NUMBERS" = some (some (.int 6 t_MOST_NUMBERS)))
    (v_MOST_TOLD : PySem.W.nsIn K mainGlobals "MOST_TOLD" = some (some (.int 400 t_MOST_TOLD)))
    (a__law_random : PySem.W.nsIn K mainGlobals "_law_random" = some (some (.ref f__law_random)))
    (l__law_random : K.lookup f__law_random = some ⟨oc__law_random, od__law_random, .func (PySem.W.fnOf "_law_random" "_law_random" (defArgs s__law_random) (defBody s__law_random) (defScope s__law_random) .none kV__law_random dc__law_random pm__law_random an__law_random cd__law_random ct__law_random), sl__law_random⟩)
    (c__law_random : PySem.W.codeIn K cd__law_random "_law_random" = true)
    (k__law_random : PySem.W.keepIn K (.ref f__law_random) = true)
    (a__law_below : PySem.W.nsIn K mainGlobals "_law_below" = some (some (.ref f__law_below)))
    (l__law_below : K.lookup f__law_below = some ⟨oc__law_below, od__law_below, .func (PySem.W.fnOf "_law_below" "_law_below" (defArgs s__law_below) (defBody s__law_below) (defScope s__law_below) .none kV__law_below dc__law_below pm__law_below an__law_below cd__law_below ct__law_below), sl__law_below⟩)
    (c__law_below : PySem.W.codeIn K cd__law_below "_law_below" = true)
    (k__law_below : PySem.W.keepIn K (.ref f__law_below) = true)
    (a__law_numbers : PySem.W.nsIn K mainGlobals "_law_numbers" = some (some (.ref f__law_numbers)))
    (l__law_numbers : K.lookup f__law_numbers = some ⟨oc__law_numbers, od__law_numbers, .func (PySem.W.fnOf "_law_numbers" "_law_numbers" (defArgs s__law_numbers) (defBody s__law_numbers) (defScope s__law_numbers) .none kV__law_numbers dc__law_numbers pm__law_numbers an__law_numbers cd__law_numbers ct__law_numbers), sl__law_numbers⟩)
    (c__law_numbers : PySem.W.codeIn K cd__law_numbers "_law_numbers" = true)
    (k__law_numbers : PySem.W.keepIn K (.ref f__law_numbers) = true)
    (a__law_equal : PySem.W.nsIn K mainGlobals "_law_equal" = some (some (.ref f__law_equal)))
    (l__law_equal : K.lookup f__law_equal = some ⟨oc__law_equal, od__law_equal, .func (PySem.W.fnOf "_law_equal" "_law_equal" (defArgs s__law_equal) (defBody s__law_equal) (defScope s__law_equal) .none kV__law_equal dc__law_equal pm__law_equal an__law_equal cd__law_equal ct__law_equal), sl__law_equal⟩)
    (c__law_equal : PySem.W.codeIn K cd__law_equal "_law_equal" = true)
    (k__law_equal : PySem.W.keepIn K (.ref f__law_equal) = true)
    (a_is_integer : PySem.W.nsIn K mainGlobals "is_integer" = some (some (.ref f_is_integer)))
    (l_is_integer : K.lookup f_is_integer = some ⟨oc_is_integer, od_is_integer, .func (PySem.W.fnOf "is_integer" "is_integer" (defArgs s_is_integer) (defBody s_is_integer) (defScope s_is_integer) .none kV_is_integer dc_is_integer pm_is_integer an_is_integer cd_is_integer ct_is_integer), sl_is_integer⟩)
    (c_is_integer : PySem.W.codeIn K cd_is_integer "is_integer" = true)
    (k_is_integer : PySem.W.keepIn K (.ref f_is_integer) = true)
    (a_is_from : PySem.W.nsIn K mainGlobals "is_from" = some (some (.ref f_is_from)))
    (l_is_from : K.lookup f_is_from = some ⟨oc_is_from, od_is_from, .func (PySem.W.fnOf "is_from" "is_from" (defArgs s_is_from) (defBody s_is_from) (defScope s_is_from) .none kV_is_from dc_is_from pm_is_from an_is_from cd_is_from ct_is_from), sl_is_from⟩)
    (c_is_from : PySem.W.codeIn K cd_is_from "is_from" = true)
    (k_is_from : PySem.W.keepIn K (.ref f_is_from) = true)
    (a_check_numbers : PySem.W.nsIn K mainGlobals "check_numbers" = some (some (.ref f_check_numbers)))
    (l_check_numbers : K.lookup f_check_numbers = some ⟨oc_check_numbers, od_check_numbers, .func (PySem.W.fnOf "check_numbers" "check_numbers" (defArgs s_check_numbers) (defBody s_check_numbers) (defScope s_check_numbers) .none kV_check_numbers dc_check_numbers pm_check_numbers an_check_numbers cd_check_numbers ct_check_numbers), sl_check_numbers⟩)
    (c_check_numbers : PySem.W.codeIn K cd_check_numbers "check_numbers" = true)
    (k_check_numbers : PySem.W.keepIn K (.ref f_check_numbers) = true)
    (a_check_size : PySem.W.nsIn K mainGlobals "check_size" = some (some (.ref f_check_size)))
    (l_check_size : K.lookup f_check_size = some ⟨oc_check_size, od_check_size, .func (PySem.W.fnOf "check_size" "check_size" (defArgs s_check_size) (defBody s_check_size) (defScope s_check_size) .none kV_check_size dc_check_size pm_check_size an_check_size cd_check_size ct_check_size), sl_check_size⟩)
    (c_check_size : PySem.W.codeIn K cd_check_size "check_size" = true)
    (k_check_size : PySem.W.keepIn K (.ref f_check_size) = true)
    (a_least_missing : PySem.W.nsIn K mainGlobals "least_missing" = some (some (.ref f_least_missing)))
    (l_least_missing : K.lookup f_least_missing = some ⟨oc_least_missing, od_least_missing, .func (PySem.W.fnOf "least_missing" "least_missing" (defArgs s_least_missing) (defBody s_least_missing) (defScope s_least_missing) .none kV_least_missing dc_least_missing pm_least_missing an_least_missing cd_least_missing ct_least_missing), sl_least_missing⟩)
    (c_least_missing : PySem.W.codeIn K cd_least_missing "least_missing" = true)
    (k_least_missing : PySem.W.keepIn K (.ref f_least_missing) = true)
    (a_but_worths : PySem.W.nsIn K mainGlobals "but_worths" = some (some (.ref f_but_worths)))
    (l_but_worths : K.lookup f_but_worths = some ⟨oc_but_worths, od_but_worths, .func (PySem.W.fnOf "but_worths" "but_worths" (defArgs s_but_worths) (defBody s_but_worths) (defScope s_but_worths) .none kV_but_worths dc_but_worths pm_but_worths an_but_worths cd_but_worths ct_but_worths), sl_but_worths⟩)
    (c_but_worths : PySem.W.codeIn K cd_but_worths "but_worths" = true)
    (k_but_worths : PySem.W.keepIn K (.ref f_but_worths) = true)
    (a__law_told : PySem.W.nsIn K mainGlobals "_law_told" = some (some (.ref f__law_told)))
    (l__law_told : K.lookup f__law_told = some ⟨oc__law_told, od__law_told, .func (PySem.W.fnOf "_law_told" "_law_told" (defArgs s__law_told) (defBody s__law_told) (defScope s__law_told) .none kV__law_told dc__law_told pm__law_told an__law_told cd__law_told ct__law_told), sl__law_told⟩)
    (c__law_told : PySem.W.codeIn K cd__law_told "_law_told" = true)
    (k__law_told : PySem.W.keepIn K (.ref f__law_told) = true)
    (a_law : PySem.W.nsIn K mainGlobals "law" = some (some (.ref f_law)))
    (l_law : K.lookup f_law = some ⟨oc_law, od_law, .func (PySem.W.fnOf "law" "law" (defArgs s_law) (defBody s_law) (defScope s_law) .none kV_law dc_law pm_law an_law cd_law ct_law), sl_law⟩)
    (c_law : PySem.W.codeIn K cd_law "law" = true)
    (k_law : PySem.W.keepIn K (.ref f_law) = true)
    (z_len : PySem.W.nsIn K mainGlobals "len" = some none)
    (z_range : PySem.W.nsIn K mainGlobals "range" = some none)
    (z_isinstance : PySem.W.nsIn K mainGlobals "isinstance" = some none)
    (z_int : PySem.W.nsIn K mainGlobals "int" = some none)
    (z_bool : PySem.W.nsIn K mainGlobals "bool" = some none)
    (z_str : PySem.W.nsIn K mainGlobals "str" = some none)
    (z_list : PySem.W.nsIn K mainGlobals "list" = some none)
    (z_tuple : PySem.W.nsIn K mainGlobals "tuple" = some none)
    (z_dict : PySem.W.nsIn K mainGlobals "dict" = some none)
    (z_set : PySem.W.nsIn K mainGlobals "set" = some none)
    (z_abs : PySem.W.nsIn K mainGlobals "abs" = some none)
    (z_sorted : PySem.W.nsIn K mainGlobals "sorted" = some none)
    (z_min : PySem.W.nsIn K mainGlobals "min" = some none)
    (z_max : PySem.W.nsIn K mainGlobals "max" = some none)
    (z_sum : PySem.W.nsIn K mainGlobals "sum" = some none)
    (z_all : PySem.W.nsIn K mainGlobals "all" = some none)
    (z_any : PySem.W.nsIn K mainGlobals "any" = some none)
    (z_enumerate : PySem.W.nsIn K mainGlobals "enumerate" = some none)
    (z_ValueError : PySem.W.nsIn K mainGlobals "ValueError" = some none) :
    FnOk P w K mg base (L2.CX P w) 6 f_law (PySem.W.fnOf "law" "law" (defArgs s_law) (defBody s_law) (defScope s_law) .none kV_law dc_law pm_law an_law cd_law ct_law) ["_law_script"] (sp_law K) := by
  have B : BI mg := ⟨PySem.W.mg_none_of X G z_len, PySem.W.mg_none_of X G z_range, PySem.W.mg_none_of X G z_isinstance, PySem.W.mg_none_of X G z_int, PySem.W.mg_none_of X G z_bool, PySem.W.mg_none_of X G z_str, PySem.W.mg_none_of X G z_list, PySem.W.mg_none_of X G z_tuple, PySem.W.mg_none_of X G z_dict, PySem.W.mg_none_of X G z_set, PySem.W.mg_none_of X G z_abs, PySem.W.mg_none_of X G z_sorted, PySem.W.mg_none_of X G z_min, PySem.W.mg_none_of X G z_max, PySem.W.mg_none_of X G z_sum, PySem.W.mg_none_of X G z_all, PySem.W.mg_none_of X G z_any, PySem.W.mg_none_of X G z_enumerate, PySem.W.mg_none_of X G z_ValueError⟩
  have F_BadNumbers___init__ := fun_mk (st := s_BadNumbers___init__) l_BadNumbers___init__ c_BadNumbers___init__ k_BadNumbers___init__
  have b_BadNumbers___init__ := F_BadNumbers___init__.binds (ps := ["self", "index"]) fun _ _ _ _ _ _ us hl => match us, hl with | [_, _], _ => rfl
  have o_BadNumbers : OexC K C_BadNumbers := ⟨⟨_, _, _, _, _, _, _, _, _, _, _, _, _, _, _, xL_BadNumbers, bm_BadNumbers⟩, sa_BadNumbers, sb_BadNumbers, ty_BadNumbers, kC_BadNumbers⟩
  have x_BadNumbers : X1 P w K mg base "BadNumbers" "index" C_BadNumbers := ⟨PySem.W.mg_of X G aC_BadNumbers, o_BadNumbers, ⟨ga_BadNumbers, gg_BadNumbers, sb_BadNumbers, hd_BadNumbers⟩, nf_BadNumbers, exm_self sb_BadNumbers ic_BadNumbers ty_BadNumbers ss_BadNumbers, _, _, _, a_BadNumbers___init__, tI_BadNumbers, xinit_ok F_BadNumbers___init__ sc_BadNumbers___init__ o_BadNumbers nf_BadNumbers (fun X hN hs => pss_one (ps_ost (pe_var (i := 0) (by rw [hN]; rfl) (by rw [Vis, hs]; exact Or.inl rfl)) (pe_var (i := 1) (by rw [hN]; rfl) (by rw [Vis, hs]; exact Or.inl rfl)))), b_BadNumbers___init__⟩
  have x_BadSize : X0 K mg "BadSize" C_BadSize := ⟨PySem.W.mg_of X G aC_BadSize, kC_BadSize, ex_BadSize, sb_BadSize, ty_BadSize, exm_self sb_BadSize ic_BadSize ty_BadSize ss_BadSize⟩
  have g_MOST_NUMBER : GC mg "MOST_NUMBER" (.int 12) := ⟨_, PySem.W.mg_of X G v_MOST_NUMBER, ⟨_, rfl⟩⟩
  have g_MOST_NUMBERS : GC mg "MOST_NUMBERS" (.int 6) := ⟨_, PySem.W.mg_of X G v_MOST_NUMBERS, ⟨_, rfl⟩⟩
  have g_MOST_TOLD : GC mg "MOST_TOLD" (.int 400) := ⟨_, PySem.W.mg_of X G v_MOST_TOLD, ⟨_, rfl⟩⟩
  have F__law_random := fun_mk (st := s__law_random) l__law_random c__law_random k__law_random
  have b__law_random := F__law_random.binds (ps := ["_law_script", "_law_salt"]) fun _ _ _ _ _ _ us hl => match us, hl with | [_, _], _ => rfl
  have h__law_random := has_of F__law_random (PySem.W.mg_of X G a__law_random) b__law_random (ok__law_random (P := P) (w := w) (base := base) B F__law_random)
  have F__law_below := fun_mk (st := s__law_below) l__law_below c__law_below k__law_below
  have b__law_below := F__law_below.binds (ps := ["_law_d", "_law_size"]) fun _ _ _ _ _ _ us hl => match us, hl with | [_, _], _ => rfl
  have h__law_below := has_of F__law_below (PySem.W.mg_of X G a__law_below) b__law_below (ok__law_below (P := P) (w := w) (base := base) B F__law_below)
  have F__law_numbers := fun_mk (st := s__law_numbers) l__law_numbers c__law_numbers k__law_numbers
  have b__law_numbers := F__law_numbers.binds (ps := ["_law_d", "_law_most", "_law_many"]) fun _ _ _ _ _ _ us hl => match us, hl with | [_, _, _], _ => rfl
  have h__law_numbers := has_of F__law_numbers (PySem.W.mg_of X G a__law_numbers) b__law_numbers (ok__law_numbers (P := P) (w := w) (base := base) B h__law_below F__law_numbers)
  have F__law_equal := fun_mk (st := s__law_equal) l__law_equal c__law_equal k__law_equal
  have b__law_equal := F__law_equal.binds (ps := ["_law_actual", "_law_expected"]) fun _ _ _ _ _ _ us hl => match us, hl with | [_, _], _ => rfl
  have h__law_equal := has__law_equal (P := P) (w := w) (base := base) B F__law_equal (PySem.W.mg_of X G a__law_equal) b__law_equal 1
  have F_is_integer := fun_mk (st := s_is_integer) l_is_integer c_is_integer k_is_integer
  have b_is_integer := F_is_integer.binds (ps := ["value"]) fun _ _ _ _ _ _ us hl => match us, hl with | [_], _ => rfl
  have h_is_integer := has_of F_is_integer (PySem.W.mg_of X G a_is_integer) b_is_integer (ok_is_integer (P := P) (w := w) (base := base) B F_is_integer)
  have F_is_from := fun_mk (st := s_is_from) l_is_from c_is_from k_is_from
  have b_is_from := F_is_from.binds (ps := ["value", "low", "high"]) fun _ _ _ _ _ _ us hl => match us, hl with | [_, _, _], _ => rfl
  have h_is_from := has_of F_is_from (PySem.W.mg_of X G a_is_from) b_is_from (ok_is_from (P := P) (w := w) (base := base) B h_is_integer F_is_from)
  have F_check_numbers := fun_mk (st := s_check_numbers) l_check_numbers c_check_numbers k_check_numbers
  have b_check_numbers := F_check_numbers.binds (ps := ["numbers"]) fun _ _ _ _ _ _ us hl => match us, hl with | [_], _ => rfl
  have h_check_numbers := has_of F_check_numbers (PySem.W.mg_of X G a_check_numbers) b_check_numbers (ok_check_numbers (P := P) (w := w) (base := base) B g_MOST_NUMBER g_MOST_NUMBERS x_BadNumbers h_is_from F_check_numbers)
  have F_check_size := fun_mk (st := s_check_size) l_check_size c_check_size k_check_size
  have b_check_size := F_check_size.binds (ps := ["size", "low", "high"]) fun _ _ _ _ _ _ us hl => match us, hl with | [_, _, _], _ => rfl
  have h_check_size := has_of F_check_size (PySem.W.mg_of X G a_check_size) b_check_size (ok_check_size (P := P) (w := w) (base := base) B x_BadSize h_is_from F_check_size)
  have F_least_missing := fun_mk (st := s_least_missing) l_least_missing c_least_missing k_least_missing
  have b_least_missing := F_least_missing.binds (ps := ["some"]) fun _ _ _ _ _ _ us hl => match us, hl with | [_], _ => rfl
  have h_least_missing := has_of F_least_missing (PySem.W.mg_of X G a_least_missing) b_least_missing (ok_least_missing (P := P) (w := w) (base := base) B F_least_missing)
  have F_but_worths := fun_mk (st := s_but_worths) l_but_worths c_but_worths k_but_worths
  have b_but_worths := F_but_worths.binds (ps := ["numbers", "size"]) fun _ _ _ _ _ _ us hl => match us, hl with | [_, _], _ => rfl
  have h_but_worths := has_of F_but_worths (PySem.W.mg_of X G a_but_worths) b_but_worths (ok_but_worths (P := P) (w := w) (base := base) B g_MOST_TOLD h_check_numbers h_check_size h_least_missing F_but_worths)
  have F__law_told := fun_mk (st := s__law_told) l__law_told c__law_told k__law_told
  have b__law_told := F__law_told.binds (ps := ["_law_numbers_so", "_law_value"]) fun _ _ _ _ _ _ us hl => match us, hl with | [_, _], _ => rfl
  have h__law_told := has_of F__law_told (PySem.W.mg_of X G a__law_told) b__law_told (ok__law_told (P := P) (w := w) (base := base) B x_BadSize h_but_worths F__law_told)
  have F_law := fun_mk (st := s_law) l_law c_law k_law
  have b_law := F_law.binds (ps := ["_law_script"]) fun _ _ _ _ _ _ us hl => match us, hl with | [_], _ => rfl
  exact ok_law (P := P) (w := w) (base := base) B h__law_random h__law_below h__law_numbers h__law_equal h_but_worths h__law_told F_law
theorem all_mk {l : PySem.W.OpenLaw} {w : World} {K : PySem.W.Frag} {h : Heap} {mg : Str → Option Value} {fa : Addr} (X : K.In h) (G : h.Ns mainGlobals mg) (hfa : mg "law" = some (.ref fa))
    {C_BadNumbers : Addr}
    {nm_BadNumbers q_BadNumbers : Str} {N_BadNumbers : Addr} {bs_BadNumbers bm_BadNumbers : List Value} {sn_BadNumbers : List Str} {su_BadNumbers : List Value} {ab_BadNumbers : Bool} {co_BadNumbers : Option Bool} {dd_BadNumbers : Option Addr} {m0_BadNumbers m1_BadNumbers m2_BadNumbers m3_BadNumbers m5_BadNumbers : Option Value}
    {f_BadNumbers___init__ : Addr} {od_BadNumbers___init__ an_BadNumbers___init__ : Option Addr} {sl_BadNumbers___init__ : Array (Option Value)} {oc_BadNumbers___init__ kV_BadNumbers___init__ dc_BadNumbers___init__ pm_BadNumbers___init__ cd_BadNumbers___init__ ct_BadNumbers___init__ : Value}
    {C_BadSize : Addr}
    {t_MOST_NUMBER : Tok}
    {t_MOST_NUMBERS : Tok}
    {t_MOST_TOLD : Tok}
    {f__law_random : Addr} {od__law_random an__law_random : Option Addr} {sl__law_random : Array (Option Value)} {oc__law_random kV__law_random dc__law_random pm__law_random cd__law_random ct__law_random : Value}
    {f__law_below : Addr} {od__law_below an__law_below : Option Addr} {sl__law_below : Array (Option Value)} {oc__law_below kV__law_below dc__law_below pm__law_below cd__law_below ct__law_below : Value}
    {f__law_numbers : Addr} {od__law_numbers an__law_numbers : Option Addr} {sl__law_numbers : Array (Option Value)} {oc__law_numbers kV__law_numbers dc__law_numbers pm__law_numbers cd__law_numbers ct__law_numbers : Value}
    {f__law_equal : Addr} {od__law_equal an__law_equal : Option Addr} {sl__law_equal : Array (Option Value)} {oc__law_equal kV__law_equal dc__law_equal pm__law_equal cd__law_equal ct__law_equal : Value}
    {f_is_integer : Addr} {od_is_integer an_is_integer : Option Addr} {sl_is_integer : Array (Option Value)} {oc_is_integer kV_is_integer dc_is_integer pm_is_integer cd_is_integer ct_is_integer : Value}
    {f_is_from : Addr} {od_is_from an_is_from : Option Addr} {sl_is_from : Array (Option Value)} {oc_is_from kV_is_from dc_is_from pm_is_from cd_is_from ct_is_from : Value}
    {f_check_numbers : Addr} {od_check_numbers an_check_numbers : Option Addr} {sl_check_numbers : Array (Option Value)} {oc_check_numbers kV_check_numbers dc_check_numbers pm_check_numbers cd_check_numbers ct_check_numbers : Value}
    {f_check_size : Addr} {od_check_size an_check_size : Option Addr} {sl_check_size : Array (Option Value)} {oc_check_size kV_check_size dc_check_size pm_check_size cd_check_size ct_check_size : Value}
    {f_least_missing : Addr} {od_least_missing an_least_missing : Option Addr} {sl_least_missing : Array (Option Value)} {oc_least_missing kV_least_missing dc_least_missing pm_least_missing cd_least_missing ct_least_missing : Value}
    {f_but_worths : Addr} {od_but_worths an_but_worths : Option Addr} {sl_but_worths : Array (Option Value)} {oc_but_worths kV_but_worths dc_but_worths pm_but_worths cd_but_worths ct_but_worths : Value}
    {f__law_told : Addr} {od__law_told an__law_told : Option Addr} {sl__law_told : Array (Option Value)} {oc__law_told kV__law_told dc__law_told pm__law_told cd__law_told ct__law_told : Value}
    {f_law : Addr} {od_law an_law : Option Addr} {sl_law : Array (Option Value)} {oc_law kV_law dc_law pm_law cd_law ct_law : Value}
    (aC_BadNumbers : PySem.W.nsIn K mainGlobals "BadNumbers" = some (some (.ref C_BadNumbers)))
    (kC_BadNumbers : PySem.W.keepIn K (.ref C_BadNumbers) = true)
    (sb_BadNumbers : PySem.W.subIn K (.ref C_BadNumbers) (.type "BaseException") = some true)
    (ty_BadNumbers : PySem.W.typeIn K (.ref C_BadNumbers) = some (.type "type"))
    (ic_BadNumbers : PySem.W.isClsIn K C_BadNumbers = true)
    (ss_BadNumbers : PySem.W.subIn K (.ref C_BadNumbers) (.ref C_BadNumbers) = some true)
    (xL_BadNumbers : K.lookup C_BadNumbers = some (excClassObj nm_BadNumbers q_BadNumbers C_BadNumbers N_BadNumbers bs_BadNumbers bm_BadNumbers true sn_BadNumbers su_BadNumbers ab_BadNumbers co_BadNumbers dd_BadNumbers m0_BadNumbers m1_BadNumbers m2_BadNumbers m3_BadNumbers m5_BadNumbers "ValueError.__new__"))
    (bm_BadNumbers : PySem.HandSPX.refsVE bm_BadNumbers = true)
    (sa_BadNumbers : PySem.W.findIn K (.ref C_BadNumbers) "__setattr__" = some (some (.builtin "object.__setattr__")))
    (ga_BadNumbers : PySem.W.findIn K (.ref C_BadNumbers) "__getattribute__" = some (some (.builtin "BaseException.__getattribute__")))
    (gg_BadNumbers : PySem.W.findIn K (.ref C_BadNumbers) "__getattr__" = some none)
    (hd_BadNumbers : PySem.W.hasDictIn K C_BadNumbers = true)
    (nf_BadNumbers : PySem.W.findIn K (.ref C_BadNumbers) "index" = some none)
    (a_BadNumbers___init__ : PySem.W.findIn K (.ref C_BadNumbers) "__init__" = some (some (.ref f_BadNumbers___init__)))
    (l_BadNumbers___init__ : K.lookup f_BadNumbers___init__ = some ⟨oc_BadNumbers___init__, od_BadNumbers___init__, .func (PySem.W.fnOf "__init__" "BadNumbers.__init__" (defArgs s_BadNumbers___init__) (defBody s_BadNumbers___init__) (defScope s_BadNumbers___init__) .none kV_BadNumbers___init__ dc_BadNumbers___init__ pm_BadNumbers___init__ an_BadNumbers___init__ cd_BadNumbers___init__ ct_BadNumbers___init__), sl_BadNumbers___init__⟩)
    (c_BadNumbers___init__ : PySem.W.codeIn K cd_BadNumbers___init__ "BadNumbers.__init__" = true)
    (k_BadNumbers___init__ : PySem.W.keepIn K (.ref f_BadNumbers___init__) = true)
    (tI_BadNumbers : PySem.W.typeIn K (.ref f_BadNumbers___init__) = some (.type "function"))
    (aC_BadSize : PySem.W.nsIn K mainGlobals "BadSize" = some (some (.ref C_BadSize)))
    (kC_BadSize : PySem.W.keepIn K (.ref C_BadSize) = true)
    (sb_BadSize : PySem.W.subIn K (.ref C_BadSize) (.type "BaseException") = some true)
    (ty_BadSize : PySem.W.typeIn K (.ref C_BadSize) = some (.type "type"))
    (ic_BadSize : PySem.W.isClsIn K C_BadSize = true)
    (ss_BadSize : PySem.W.subIn K (.ref C_BadSize) (.ref C_BadSize) = some true)
    (ex_BadSize : PySem.W.excIn K C_BadSize veT "ValueError.__new__" = true)
    (v_MOST_NUMBER : PySem.W.nsIn K mainGlobals "MOST_NUMBER" = some (some (.int 12 t_MOST_NUMBER)))
    (v_MOST_NUMBERS : PySem.W.nsIn K mainGlobals "MOST_NUMBERS" = some (some (.int 6 t_MOST_NUMBERS)))
    (v_MOST_TOLD : PySem.W.nsIn K mainGlobals "MOST_TOLD" = some (some (.int 400 t_MOST_TOLD)))
    (a__law_random : PySem.W.nsIn K mainGlobals "_law_random" = some (some (.ref f__law_random)))
    (l__law_random : K.lookup f__law_random = some ⟨oc__law_random, od__law_random, .func (PySem.W.fnOf "_law_random" "_law_random" (defArgs s__law_random) (defBody s__law_random) (defScope s__law_random) .none kV__law_random dc__law_random pm__law_random an__law_random cd__law_random ct__law_random), sl__law_random⟩)
    (c__law_random : PySem.W.codeIn K cd__law_random "_law_random" = true)
    (k__law_random : PySem.W.keepIn K (.ref f__law_random) = true)
    (a__law_below : PySem.W.nsIn K mainGlobals "_law_below" = some (some (.ref f__law_below)))
    (l__law_below : K.lookup f__law_below = some ⟨oc__law_below, od__law_below, .func (PySem.W.fnOf "_law_below" "_law_below" (defArgs s__law_below) (defBody s__law_below) (defScope s__law_below) .none kV__law_below dc__law_below pm__law_below an__law_below cd__law_below ct__law_below), sl__law_below⟩)
    (c__law_below : PySem.W.codeIn K cd__law_below "_law_below" = true)
    (k__law_below : PySem.W.keepIn K (.ref f__law_below) = true)
    (a__law_numbers : PySem.W.nsIn K mainGlobals "_law_numbers" = some (some (.ref f__law_numbers)))
    (l__law_numbers : K.lookup f__law_numbers = some ⟨oc__law_numbers, od__law_numbers, .func (PySem.W.fnOf "_law_numbers" "_law_numbers" (defArgs s__law_numbers) (defBody s__law_numbers) (defScope s__law_numbers) .none kV__law_numbers dc__law_numbers pm__law_numbers an__law_numbers cd__law_numbers ct__law_numbers), sl__law_numbers⟩)
    (c__law_numbers : PySem.W.codeIn K cd__law_numbers "_law_numbers" = true)
    (k__law_numbers : PySem.W.keepIn K (.ref f__law_numbers) = true)
    (a__law_equal : PySem.W.nsIn K mainGlobals "_law_equal" = some (some (.ref f__law_equal)))
    (l__law_equal : K.lookup f__law_equal = some ⟨oc__law_equal, od__law_equal, .func (PySem.W.fnOf "_law_equal" "_law_equal" (defArgs s__law_equal) (defBody s__law_equal) (defScope s__law_equal) .none kV__law_equal dc__law_equal pm__law_equal an__law_equal cd__law_equal ct__law_equal), sl__law_equal⟩)
    (c__law_equal : PySem.W.codeIn K cd__law_equal "_law_equal" = true)
    (k__law_equal : PySem.W.keepIn K (.ref f__law_equal) = true)
    (a_is_integer : PySem.W.nsIn K mainGlobals "is_integer" = some (some (.ref f_is_integer)))
    (l_is_integer : K.lookup f_is_integer = some ⟨oc_is_integer, od_is_integer, .func (PySem.W.fnOf "is_integer" "is_integer" (defArgs s_is_integer) (defBody s_is_integer) (defScope s_is_integer) .none kV_is_integer dc_is_integer pm_is_integer an_is_integer cd_is_integer ct_is_integer), sl_is_integer⟩)
    (c_is_integer : PySem.W.codeIn K cd_is_integer "is_integer" = true)
    (k_is_integer : PySem.W.keepIn K (.ref f_is_integer) = true)
    (a_is_from : PySem.W.nsIn K mainGlobals "is_from" = some (some (.ref f_is_from)))
    (l_is_from : K.lookup f_is_from = some ⟨oc_is_from, od_is_from, .func (PySem.W.fnOf "is_from" "is_from" (defArgs s_is_from) (defBody s_is_from) (defScope s_is_from) .none kV_is_from dc_is_from pm_is_from an_is_from cd_is_from ct_is_from), sl_is_from⟩)
    (c_is_from : PySem.W.codeIn K cd_is_from "is_from" = true)
    (k_is_from : PySem.W.keepIn K (.ref f_is_from) = true)
    (a_check_numbers : PySem.W.nsIn K mainGlobals "check_numbers" = some (some (.ref f_check_numbers)))
    (l_check_numbers : K.lookup f_check_numbers = some ⟨oc_check_numbers, od_check_numbers, .func (PySem.W.fnOf "check_numbers" "check_numbers" (defArgs s_check_numbers) (defBody s_check_numbers) (defScope s_check_numbers) .none kV_check_numbers dc_check_numbers pm_check_numbers an_check_numbers cd_check_numbers ct_check_numbers), sl_check_numbers⟩)
    (c_check_numbers : PySem.W.codeIn K cd_check_numbers "check_numbers" = true)
    (k_check_numbers : PySem.W.keepIn K (.ref f_check_numbers) = true)
    (a_check_size : PySem.W.nsIn K mainGlobals "check_size" = some (some (.ref f_check_size)))
    (l_check_size : K.lookup f_check_size = some ⟨oc_check_size, od_check_size, .func (PySem.W.fnOf "check_size" "check_size" (defArgs s_check_size) (defBody s_check_size) (defScope s_check_size) .none kV_check_size dc_check_size pm_check_size an_check_size cd_check_size ct_check_size), sl_check_size⟩)
    (c_check_size : PySem.W.codeIn K cd_check_size "check_size" = true)
    (k_check_size : PySem.W.keepIn K (.ref f_check_size) = true)
    (a_least_missing : PySem.W.nsIn K mainGlobals "least_missing" = some (some (.ref f_least_missing)))
    (l_least_missing : K.lookup f_least_missing = some ⟨oc_least_missing, od_least_missing, .func (PySem.W.fnOf "least_missing" "least_missing" (defArgs s_least_missing) (defBody s_least_missing) (defScope s_least_missing) .none kV_least_missing dc_least_missing pm_least_missing an_least_missing cd_least_missing ct_least_missing), sl_least_missing⟩)
    (c_least_missing : PySem.W.codeIn K cd_least_missing "least_missing" = true)
    (k_least_missing : PySem.W.keepIn K (.ref f_least_missing) = true)
    (a_but_worths : PySem.W.nsIn K mainGlobals "but_worths" = some (some (.ref f_but_worths)))
    (l_but_worths : K.lookup f_but_worths = some ⟨oc_but_worths, od_but_worths, .func (PySem.W.fnOf "but_worths" "but_worths" (defArgs s_but_worths) (defBody s_but_worths) (defScope s_but_worths) .none kV_but_worths dc_but_worths pm_but_worths an_but_worths cd_but_worths ct_but_worths), sl_but_worths⟩)
    (c_but_worths : PySem.W.codeIn K cd_but_worths "but_worths" = true)
    (k_but_worths : PySem.W.keepIn K (.ref f_but_worths) = true)
    (a__law_told : PySem.W.nsIn K mainGlobals "_law_told" = some (some (.ref f__law_told)))
    (l__law_told : K.lookup f__law_told = some ⟨oc__law_told, od__law_told, .func (PySem.W.fnOf "_law_told" "_law_told" (defArgs s__law_told) (defBody s__law_told) (defScope s__law_told) .none kV__law_told dc__law_told pm__law_told an__law_told cd__law_told ct__law_told), sl__law_told⟩)
    (c__law_told : PySem.W.codeIn K cd__law_told "_law_told" = true)
    (k__law_told : PySem.W.keepIn K (.ref f__law_told) = true)
    (a_law : PySem.W.nsIn K mainGlobals "law" = some (some (.ref f_law)))
    (l_law : K.lookup f_law = some ⟨oc_law, od_law, .func (PySem.W.fnOf "law" "law" (defArgs s_law) (defBody s_law) (defScope s_law) .none kV_law dc_law pm_law an_law cd_law ct_law), sl_law⟩)
    (c_law : PySem.W.codeIn K cd_law "law" = true)
    (k_law : PySem.W.keepIn K (.ref f_law) = true)
    (z_len : PySem.W.nsIn K mainGlobals "len" = some none)
    (z_range : PySem.W.nsIn K mainGlobals "range" = some none)
    (z_isinstance : PySem.W.nsIn K mainGlobals "isinstance" = some none)
    (z_int : PySem.W.nsIn K mainGlobals "int" = some none)
    (z_bool : PySem.W.nsIn K mainGlobals "bool" = some none)
    (z_str : PySem.W.nsIn K mainGlobals "str" = some none)
    (z_list : PySem.W.nsIn K mainGlobals "list" = some none)
    (z_tuple : PySem.W.nsIn K mainGlobals "tuple" = some none)
    (z_dict : PySem.W.nsIn K mainGlobals "dict" = some none)
    (z_set : PySem.W.nsIn K mainGlobals "set" = some none)
    (z_abs : PySem.W.nsIn K mainGlobals "abs" = some none)
    (z_sorted : PySem.W.nsIn K mainGlobals "sorted" = some none)
    (z_min : PySem.W.nsIn K mainGlobals "min" = some none)
    (z_max : PySem.W.nsIn K mainGlobals "max" = some none)
    (z_sum : PySem.W.nsIn K mainGlobals "sum" = some none)
    (z_all : PySem.W.nsIn K mainGlobals "all" = some none)
    (z_any : PySem.W.nsIn K mainGlobals "any" = some none)
    (z_enumerate : PySem.W.nsIn K mainGlobals "enumerate" = some none)
    (z_ValueError : PySem.W.nsIn K mainGlobals "ValueError" = some none) :
    ∃ fd : FuncData, (∀ (s : Shared) (v : Value), BindsTo s fd ⟨[v], []⟩ [("_law_script", v)]) ∧ ∀ base : Heap, K.In base → base.Ns mainGlobals mg → FnOk l.prog w K mg base (L2.CX l.prog w) 6 fa fd ["_law_script"] (sp_law K) := by
  have e := hfa.symm.trans (PySem.W.mg_of X G a_law)
  cases e
  exact ⟨_, fun s v => .of_eq rfl, fun base _ _ => all_fn X G aC_BadNumbers kC_BadNumbers sb_BadNumbers ty_BadNumbers ic_BadNumbers ss_BadNumbers xL_BadNumbers bm_BadNumbers sa_BadNumbers ga_BadNumbers gg_BadNumbers hd_BadNumbers nf_BadNumbers a_BadNumbers___init__ l_BadNumbers___init__ c_BadNumbers___init__ k_BadNumbers___init__ tI_BadNumbers aC_BadSize kC_BadSize sb_BadSize ty_BadSize ic_BadSize ss_BadSize ex_BadSize v_MOST_NUMBER v_MOST_NUMBERS v_MOST_TOLD a__law_random l__law_random c__law_random k__law_random a__law_below l__law_below c__law_below k__law_below a__law_numbers l__law_numbers c__law_numbers k__law_numbers a__law_equal l__law_equal c__law_equal k__law_equal a_is_integer l_is_integer c_is_integer k_is_integer a_is_from l_is_from c_is_from k_is_from a_check_numbers l_check_numbers c_check_numbers k_check_numbers a_check_size l_check_size c_check_size k_check_size a_least_missing l_least_missing c_least_missing k_least_missing a_but_worths l_but_worths c_but_worths k_but_worths a__law_told l__law_told c__law_told k__law_told a_law l_law c_law k_law z_len z_range z_isinstance z_int z_bool z_str z_list z_tuple z_dict z_set z_abs z_sorted z_min z_max z_sum z_all z_any z_enumerate z_ValueError⟩
theorem walk {l : PySem.W.OpenLaw} {q : Program} {loose : List Str} {XP : (Str → Option Value) → Heap → Prop} {YP : World → Heap → Prop} {d : DefRec} {K : Params → PySem.W.Frag} (hn : l.most = some 63) (hdf : d.params.defaults = [])
    (hY : ∀ (w : World) (h : Heap), YP w h → (K w.params).In h)
    (F : ∀ (w : World) (mg : Str → Option Value) (fa : Addr) (h : Heap), (K w.params).In h → h.Ns mainGlobals mg → mg d.name = some (.ref fa) →
      ∃ fd : FuncData, (∀ (s : Shared) (u : Value), BindsTo s fd ⟨[u], []⟩ [("_law_script", u)]) ∧ ∀ base : Heap, (K w.params).In base → base.Ns mainGlobals mg → FnOk l.prog w (K w.params) mg base (L2.CX l.prog w) 6 fa fd ["_law_script"] (sp_law (K w.params))) :
    PySem.W.WalkO q loose XP YP l.row.toRowW d [] (fun f vs => PySem.call f vs) :=
  L2.walk_of (n := 63) (k := 6) (x := "_law_script") (CX := fun w => L2.CX l.prog w) (sp := fun w => sp_law (K w.params)) hn (by decide) hdf ⟨rfl, by decide, by decide⟩ hY F (fun _ _ a ns hl _ hS => ⟨a, ns, rfl, hS, hl, fun _ => rfl⟩) fun _ _ _ _ _ z => by
    obtain ⟨_, _, _, _, _, _, _, _, _, _, _, _, z⟩ := z
    exact z.elim
end G
open PySem PySem.W PyProof.Rows
set_option maxRecDepth 100000 in
set_option maxHeartbeats 0 in
theorem PySem.Challenge.cw_comesround_k06_all_but_told_numbers_holds : PySem.Challenge.rw_comesround_k06_all_but_told_numbers.Holds := by
  w_on; o_law; k_head; (case hw => w_witness2)
  k_fill
  refine G.walk (l := PySem.Challenge.rw_comesround_k06_all_but_told_numbers) rfl rfl (fun w h Y => PySem.W.kIn_of Y) ?F
  case F =>
    intro w mg fa h KX GG hmg
    refine' G.all_mk KX GG hmg ?aC_BadNumbers ?kC_BadNumbers ?sb_BadNumbers ?ty_BadNumbers ?ic_BadNumbers ?ss_BadNumbers ?xL_BadNumbers ?bm_BadNumbers ?sa_BadNumbers ?ga_BadNumbers ?gg_BadNumbers ?hd_BadNumbers ?nf_BadNumbers ?a_BadNumbers___init__ ?l_BadNumbers___init__ ?c_BadNumbers___init__ ?k_BadNumbers___init__ ?tI_BadNumbers ?aC_BadSize ?kC_BadSize ?sb_BadSize ?ty_BadSize ?ic_BadSize ?ss_BadSize ?ex_BadSize ?v_MOST_NUMBER ?v_MOST_NUMBERS ?v_MOST_TOLD ?a__law_random ?l__law_random ?c__law_random ?k__law_random ?a__law_below ?l__law_below ?c__law_below ?k__law_below ?a__law_numbers ?l__law_numbers ?c__law_numbers ?k__law_numbers ?a__law_equal ?l__law_equal ?c__law_equal ?k__law_equal ?a_is_integer ?l_is_integer ?c_is_integer ?k_is_integer ?a_is_from ?l_is_from ?c_is_from ?k_is_from ?a_check_numbers ?l_check_numbers ?c_check_numbers ?k_check_numbers ?a_check_size ?l_check_size ?c_check_size ?k_check_size ?a_least_missing ?l_least_missing ?c_least_missing ?k_least_missing ?a_but_worths ?l_but_worths ?c_but_worths ?k_but_worths ?a__law_told ?l__law_told ?c__law_told ?k__law_told ?a_law ?l_law ?c_law ?k_law ?z_len ?z_range ?z_isinstance ?z_int ?z_bool ?z_str ?z_list ?z_tuple ?z_dict ?z_set ?z_abs ?z_sorted ?z_min ?z_max ?z_sum ?z_all ?z_any ?z_enumerate ?z_ValueError
    (case aC_BadNumbers => k_is)
    (case kC_BadNumbers => k_is)
    (case sb_BadNumbers => k_is)
    (case ty_BadNumbers => k_is)
    (case ic_BadNumbers => k_is)
    (case ss_BadNumbers => first | rfl | k_is)
    (case xL_BadNumbers => k_is)
    (case bm_BadNumbers => decide +kernel)
    (case sa_BadNumbers => k_is)
    (case ga_BadNumbers => k_is)
    (case gg_BadNumbers => k_is)
    (case hd_BadNumbers => k_is)
    (case nf_BadNumbers => k_is)
    (case a_BadNumbers___init__ => k_is)
    (case l_BadNumbers___init__ => k_is)
    (case c_BadNumbers___init__ => k_is)
    (case k_BadNumbers___init__ => k_is)
    (case tI_BadNumbers => k_is)
    (case aC_BadSize => k_is)
    (case kC_BadSize => k_is)
    (case sb_BadSize => k_is)
    (case ty_BadSize => k_is)
    (case ic_BadSize => k_is)
    (case ss_BadSize => first | rfl | k_is)
    (case ex_BadSize => k_exc)
    (case v_MOST_NUMBER => k_is)
    (case v_MOST_NUMBERS => k_is)
    (case v_MOST_TOLD => k_is)
    (case a__law_random => k_is)
    (case l__law_random => k_is)
    (case c__law_random => k_is)
    (case k__law_random => k_is)
    (case a__law_below => k_is)
    (case l__law_below => k_is)
    (case c__law_below => k_is)
    (case k__law_below => k_is)
    (case a__law_numbers => k_is)
    (case l__law_numbers => k_is)
    (case c__law_numbers => k_is)
    (case k__law_numbers => k_is)
    (case a__law_equal => k_is)
    (case l__law_equal => k_is)
    (case c__law_equal => k_is)
    (case k__law_equal => k_is)
    (case a_is_integer => k_is)
    (case l_is_integer => k_is)
    (case c_is_integer => k_is)
    (case k_is_integer => k_is)
    (case a_is_from => k_is)
    (case l_is_from => k_is)
    (case c_is_from => k_is)
    (case k_is_from => k_is)
    (case a_check_numbers => k_is)
    (case l_check_numbers => k_is)
    (case c_check_numbers => k_is)
    (case k_check_numbers => k_is)
    (case a_check_size => k_is)
    (case l_check_size => k_is)
    (case c_check_size => k_is)
    (case k_check_size => k_is)
    (case a_least_missing => k_is)
    (case l_least_missing => k_is)
    (case c_least_missing => k_is)
    (case k_least_missing => k_is)
    (case a_but_worths => k_is)
    (case l_but_worths => k_is)
    (case c_but_worths => k_is)
    (case k_but_worths => k_is)
    (case a__law_told => k_is)
    (case l__law_told => k_is)
    (case c__law_told => k_is)
    (case k__law_told => k_is)
    (case a_law => k_is)
    (case l_law => k_is)
    (case c_law => k_is)
    (case k_law => k_is)
    (case z_len => k_is)
    (case z_range => k_is)
    (case z_isinstance => k_is)
    (case z_int => k_is)
    (case z_bool => k_is)
    (case z_str => k_is)
    (case z_list => k_is)
    (case z_tuple => k_is)
    (case z_dict => k_is)
    (case z_set => k_is)
    (case z_abs => k_is)
    (case z_sorted => k_is)
    (case z_min => k_is)
    (case z_max => k_is)
    (case z_sum => k_is)
    (case z_all => k_is)
    (case z_any => k_is)
    (case z_enumerate => k_is)
    (case z_ValueError => k_is)
#print axioms PySem.Challenge.cw_comesround_k06_all_but_told_numbers_holds
