import PyProof.Rows.All
import Wide.All
import OpenK.AllK
import Wide.FinOn
import KE.KStateDown
import KE.KExcSuper
import Lean
import HandS.ForMost
import HandS.ForExc
import HandS.ExcInit
import HandS.SetKeys
import HandS.IsInst
import HandS.TupAny
import HandS.Style
import HandS.AnyAll
import HandS.SetFor
import HandS.EndTab
import HandS.Defaults
import HandS.Head0
import HandS.Head1
import HandS.Head2
import HandS.HeadEnd
import HandS.HeadHook1
import HandS.HeadHook2
import HandS.HeadHook3
import HandS.HeadHook4
import HandS.HeadWalk
import PySem.Challenge.RW_sinktree_k12_whole_judge_is_sound
set_option Elab.async false
set_option linter.all false
set_option maxRecDepth 100000
set_option maxHeartbeats 4000000
/-! # Part 0: the text by places, callable defs, heaps that grow -/
namespace Snk
open PySem PySem.Spec PyProof.Rows L2
def topS (i : Nat) : Stmt := PySem.Challenge.pw_sinktree_k12_whole_judge_is_sound.main.body.getD i (.Pass ⟨0, 0, 0, 0⟩)

/-! ### a def of the top, as data of the written part -/
structure DefAt (K : PySem.W.Frag) (mg : Str → Option Value) (x : Str) (i : Nat) (ps : List Str) : Prop where
  ex : ∃ (f : Addr) (fd : FuncData), FunD K x x (defArgs (topS i)) (defBody (topS i)) (defScope (topS i)) [] [] f fd ∧ mg x = some (.ref f) ∧ Binds K fd ps []
/-- a def that keeps a promise, ready to be called by its name -/
structure Cal (P : Program) (w : World) (K : PySem.W.Frag) (mg : Str → Option Value) (base : Heap) (CX : CXT) (k : Nat) (x : Str) (ps : List Str) (sp : Sp) : Prop where
  ex : ∃ (f : Addr) (fd : FuncData), mg x = some (.ref f) ∧ PySem.W.keepIn K (.ref f) = true ∧ Binds K fd ps [] ∧ FnOk P w K mg base CX k f fd ps sp
section
variable {P : Program} {w : World} {K : PySem.W.Frag} {mg : Str → Option Value} {base : Heap} {CX : CXT} {k : Nat} {x : Str} {i : Nat} {N ps : List Str} {sp sp' : Sp}
theorem Cal.mono {j : Nat} (C : Cal P w K mg base CX j x ps sp) (h : j ≤ k) : Cal P w K mg base CX k x ps sp := by
  obtain ⟨f, fd, a, b, c, F⟩ := C.ex
  exact ⟨f, fd, a, b, c, F.mono h⟩
theorem Cal.imp (C : Cal P w K mg base CX k x ps sp) (h : ∀ vs H Q E, sp' vs H Q E → sp vs H Q E) : Cal P w K mg base CX k x ps sp' := by
  obtain ⟨f, fd, a, b, c, F⟩ := C.ex
  exact ⟨f, fd, a, b, c, F.imp h⟩
/-- a def that lets no exception out -/
theorem mk0 (D : DefAt K mg x i ps) (S : FnScope N ps (defScope (topS i))) (len : ∀ vs H Q E, sp vs H Q E → vs.length = ps.length)
    (hb : ∀ (X : Cx) (Q : VK) (vs : List V) (H : Hp) (E : XK), (∃ f cdv A outer s H0, X = (cxOf CX0 P w K mg base N x (defScope (topS i)) f cdv A outer s H0 E).nox) → Room k X.A → sp vs H Q E →
      ∃ t, PSs X (defBody (topS i)) t ∧ t { nx := fun _ H' => Q .non H', rt := Q } (start N vs) H) : Cal P w K mg base CX0 (k + 1) x ps sp := by
  obtain ⟨f, fd, F, m, b⟩ := D.ex
  refine ⟨f, fd, m, F.kp, b, FunD.ok F S len fun cdv A outer s H vs Q E hr h => ?_⟩
  obtain ⟨t, ht, hq⟩ := hb _ Q vs H E ⟨f, cdv, A, outer, s, H, rfl⟩ hr h
  exact ⟨t, ht.nox, hq⟩
end
section
variable {X : Cx} {k j : Nat} {sp : Sp} {ps : List Str} {x : Str} {p pos : Pos} {e : Expr} {es : List Expr} {t : TA} {CX : CXT} {W : WX}
theorem pc0 (C : Cal X.prog X.w X.K X.mg X.base CX0 k x ps sp) (hr : Room j X.A) (hk : k ≤ j) (ha : PA X (e :: es) t) (hg : Gl X x := by rfl) (hdb : (x == ("__debug__" : Str)) = false := by decide)
    (he : starEach (e :: es) X.env = (false, eval e X.env) :: starEach es X.env := by rfl) (hpl : (backTo pos (starEach es X.env)).any (·.1) = false := by rfl) :
    PE X (.Call (.Name x p) (e :: es) [] pos) (tCallS sp (fun _ => E0) t) := by
  obtain ⟨f, fd, m, kp, b, F⟩ := C.ex
  exact pe_callS F (hr.mono hk) hg m kp b (fun _ _ _ _ _ _ _ h => h.elim) ha hdb he hpl
theorem pcX (C : Cal X.prog X.w X.K X.mg X.base (L2.CX X.prog X.w) k x ps sp) (hr : Room j X.A) (hk : k ≤ j) (tk : Takes X W) (ha : PA X (e :: es) t) (hg : Gl X x := by rfl) (hdb : (x == ("__debug__" : Str)) = false := by decide)
    (he : starEach (e :: es) X.env = (false, eval e X.env) :: starEach es X.env := by rfl) (hpl : (backTo pos (starEach es X.env)).any (·.1) = false := by rfl) :
    PE X (.Call (.Name x p) (e :: es) [] pos) (tCallS sp (WE W) t) := by
  obtain ⟨f, fd, m, kp, b, F⟩ := C.ex
  exact pe_callS F (hr.mono hk) hg m kp b (fun σ => passAt tk σ) ha hdb he hpl
end

/-! ### what the module's names stand for -/
structure Blt (mg : Str → Option Value) : Prop where
  isinstance_ : mg "isinstance" = none
  len_ : mg "len" = none
  range_ : mg "range" = none
  min_ : mg "min" = none
  max_ : mg "max" = none
  int_ : mg "int" = none
  bool_ : mg "bool" = none
  str_ : mg "str" = none
  tuple_ : mg "tuple" = none
  list_ : mg "list" = none
  set_ : mg "set" = none
  sorted_ : mg "sorted" = none
  all_ : mg "all" = none
  abs_ : mg "abs" = none
  ord_ : mg "ord" = none
  super_ : mg "super" = none

/-! ### heaps that grow: all is kept but what x names (and code tables, which may grow) -/
structure Gr (x : Addr → Prop) (H H' : Hp) : Prop where
  keep : ∀ b o, H b = some o → ¬ x b → (∀ ps, o ≠ .tbl ps) → H' b = some o
  tup : ∀ b xs, H b = some (.tup xs) → H' b = some (.tup xs)
  tab : ∀ b ps, H b = some (.tbl ps) → ∃ ps', H' b = some (.tbl ps') ∧ (TriplesOk ps.toList → TriplesOk ps'.toList)
  free : ∀ b, H' b = none → H b = none
abbrev no : Addr → Prop := fun _ => False
section
variable {x y : Addr → Prop} {H H' H1 H2 : Hp} {p l : Addr} {o : HO} {xs ys zs : List V}
theorem Gr.refl (x : Addr → Prop) (H : Hp) : Gr x H H := ⟨fun _ _ h _ _ => h, fun _ _ h => h, fun _ ps h => ⟨ps, h, id⟩, fun _ h => h⟩
theorem Gr.trans (a : Gr x H H1) (b : Gr x H1 H2) : Gr x H H2 :=
  ⟨fun c o h n t => b.keep c o (a.keep c o h n t) n t, fun c q h => b.tup c q (a.tup c q h), fun c ps h => by
    obtain ⟨p1, h1, k1⟩ := a.tab c ps h
    obtain ⟨p2, h2, k2⟩ := b.tab c p1 h1
    exact ⟨p2, h2, fun z => k2 (k1 z)⟩, fun c h => a.free c (b.free c h)⟩
theorem Gr.mono (a : Gr x H H1) (h : ∀ b, x b → y b) : Gr y H H1 := ⟨fun c o q n t => a.keep c o q (fun z => n (h c z)) t, a.tup, a.tab, a.free⟩
theorem Gr.any (a : Gr no H H1) : Gr y H H1 := a.mono fun _ z => z.elim
theorem free_of_upd (h : upd H p o l = none) : H l = none := by
  unfold upd at h
  split at h
  · cases h
  · exact h
theorem Gr.new (h : H p = none) : Gr x H (upd H p o) :=
  ⟨fun b u e _ _ => by rw [upd_ne (ne_of_none e h)]; exact e, fun b q e => by rw [upd_ne (ne_of_none e h)]; exact e,
    fun b ps e => ⟨ps, by rw [upd_ne (ne_of_none e h)]; exact e, id⟩, fun b e => free_of_upd e⟩
/-- an object that x names is written -/
theorem Gr.put (h : H l = some (.lst xs)) (hx : x l) : Gr x H (upd H l o) :=
  ⟨fun b u e n _ => by rw [upd_ne (fun z => n (by rw [z]; exact hx))]; exact e, fun b q e => by rw [upd_ne (ne_of e h (fun z => by cases z))]; exact e,
    fun b ps e => ⟨ps, by rw [upd_ne (ne_of e h (fun z => by cases z))]; exact e, id⟩, fun b e => free_of_upd e⟩
/-- an object that was not there before is written -/
theorem Gr.own (a : Gr x H H1) (h : H l = none) : Gr x H (upd H1 l o) :=
  ⟨fun b u e n t => by rw [upd_ne (ne_of_none e h)]; exact a.keep b u e n t, fun b q e => by rw [upd_ne (ne_of_none e h)]; exact a.tup b q e,
    fun b ps e => by rw [upd_ne (ne_of_none e h)]; exact a.tab b ps e, fun b e => a.free b (free_of_upd e)⟩
theorem Gr.lst (a : Gr x H H1) (h : H l = some (.lst xs)) (n : ¬ x l) : H1 l = some (.lst xs) := a.keep _ _ h n (fun ps z => by cases z)
theorem Gr.dK {kvs : List (L2.Key × V)} (a : Gr x H H1) (h : H l = some (.dK kvs)) (n : ¬ x l) : H1 l = some (.dK kvs) := a.keep _ _ h n (fun ps z => by cases z)
theorem Gr.frz {ob : Obj} {u : HO} (a : Gr x H H1) (h : H l = some (.frz ob u)) (n : ¬ x l) : H1 l = some (.frz ob u) := a.keep _ _ h n (fun ps z => by cases z)
theorem Gr.seqL {K : PySem.W.Frag} (a : Gr x H H1) (h : SqL K H l xs) (n : ¬ x l) : SqL K H1 l xs := by
  rcases h with (h | ⟨ob, h⟩) | h
  · exact .inl (.inl (a.lst h n))
  · exact .inl (.inr ⟨ob, a.frz h n⟩)
  · exact .inr h
end

/-! ### readings, one step each -/
section
variable {σ : L2.St} {H : Hp} {Q : VK} {D : Ends} {v x y : V} {i : Nat} {ta tb tc te : TE} {r r2 : R2} {t tr : TA} {sp : Sp} {E : L2.St → XK} {tA tB2 : TT} {QT : Bool → Hp → Prop} {QA : List V → Hp → Prop} {u w2 : TS} {g : TG} {K : PySem.W.Frag}
theorem r_var (h : σ[i]? = some (some v)) (q : Q v H) : tVar i σ H Q := ⟨v, h, q⟩
theorem r_c (q : Q v H) : tC v σ H Q := q
theorem r_op (h : ta σ H fun x H1 => tb σ H1 fun y H2 => r x y H2 Q) : tOp r ta tb σ H Q := h
theorem r_un {f : V → Hp → VK → Prop} (h : ta σ H fun x H1 => f x H1 Q) : tUn f ta σ H Q := h
theorem r_chain (h : ta σ H fun x H1 => tb σ H1 fun y H2 => r x y H2 fun z H3 => ∃ k, z = .bl k ∧ (if k = true then tc σ H3 fun w' H4 => r2 y w' H4 Q else Q (.bl false) H3)) : tChain r r2 ta tb tc σ H Q := h
theorem r_tup (h : t σ H fun xs H1 => xs.length ≤ sizeLine ∧ ∀ p, H1 p = none → Q (.ref p) (upd H1 p (.tup xs))) : tTup t σ H Q := h
theorem r_lst (h : t σ H fun xs H1 => xs.length ≤ sizeLine ∧ ∀ p, H1 p = none → Q (.ref p) (upd H1 p (.lst xs))) : tLst t σ H Q := h
theorem r_cons (h : ta σ H fun x H1 => tr σ H1 fun xs H2 => QA (x :: xs) H2) : tCons ta tr σ H QA := h
theorem r_nil (h : QA [] H) : tNil σ H QA := h
theorem r_cb {f : List V → Hp → VK → Prop} (h : t σ H fun vs H1 => f vs H1 Q) : tCB f t σ H Q := h
theorem r_call (h : t σ H fun vs H1 => sp vs H1 Q (E σ)) : tCallS sp E t σ H Q := h
theorem r_bm {T : String} {f : V → List V → Hp → VK → Prop} (h : ta σ H fun x H1 => tyV K T x H1 ∧ t σ H1 fun xs H2 => f x xs H2 Q) : tBM K T f ta t σ H Q := h
theorem r_bm0 {T : String} {f : V → List V → Hp → VK → Prop} (h : ta σ H fun x H1 => tyV K T x H1 ∧ f x [] H1 Q) : tBM0 K T f ta σ H Q := h
theorem r_sl {f : V → Option Int → Option Int → Hp → VK → Prop} {tl th : TO} (h : te σ H fun x H1 => tl σ H1 fun l H2 => th σ H2 fun u H3 => f x l u H3 Q) : tSl f te tl th σ H Q := h
theorem r_test (h : ta σ H fun x H' => ∃ k, x = .bl k ∧ QT k H') : tTest ta σ H QT := h
theorem r_tb (h : ta σ H fun x H' => ∃ k, x = .bl k ∧ QT k H') : tB ta σ H QT := h
theorem r_tand (h : tA σ H fun c H1 => if c = true then tB2 σ H1 QT else QT false H1) : tAnd tA tB2 σ H QT := h
theorem r_tor (h : tA σ H fun c H1 => if c = true then QT true H1 else tB2 σ H1 QT) : tOr tA tB2 σ H QT := h
theorem r_tnot (h : tA σ H fun c H1 => QT (!c) H1) : tNot tA σ H QT := h
theorem r_andV (h : ta σ H fun x H1 => ∃ c, x = .bl c ∧ if c = true then tb σ H1 Q else Q (.bl false) H1) : tAndV ta tb σ H Q := h
theorem r_orV (h : ta σ H fun x H1 => ∃ c, x = .bl c ∧ if c = true then Q (.bl true) H1 else tb σ H1 Q) : tOrV ta tb σ H Q := h
theorem r_notV (h : ta σ H fun x H1 => ∃ c, x = .bl c ∧ Q (.bl (!c)) H1) : tNotV ta σ H Q := h
theorem r_ife (h : tA σ H fun c H1 => if c = true then ta σ H1 Q else tb σ H1 Q) : tIf tA ta tb σ H Q := h
theorem s_seq (h : u { D with nx := w2 D } σ H) : tSeq u w2 D σ H := h
theorem s_next (h : D.nx σ H) : tNext D σ H := h
theorem s_nextM {n b c : L2.St → Hp → Prop} {rt : VK} (h : n σ H) : tNext ⟨n, rt, b, c⟩ σ H := h
theorem s_ret (h : te σ H D.rt) : tRet te D σ H := h
theorem s_if (h : tA σ H fun b H1 => if b = true then u D σ H1 else w2 D σ H1) : tIfS tA u w2 D σ H := h
theorem s_asg (h : te σ H fun x H1 => g x σ H1 D.nx) : tAsg te g D σ H := h
theorem s_drop (h : te σ H fun _ H1 => D.nx σ H1) : tDrop te D σ H := h
theorem s_cont (h : D.ct σ H) : tCont D σ H := h
theorem s_break (h : D.bk σ H) : tBreak D σ H := h
theorem g_name {QS : L2.St → Hp → Prop} (h : QS (σ.set i (some v)) H) : gName i v σ H QS := h
theorem r_I0 {f : Int → Int → V} {a b : Int} (q : Q (f a b) H) : rI0 f (.int a) (.int b) H Q := ⟨a, b, rfl, rfl, q⟩
theorem r_I {C : Int → Int → Prop} {f : Int → Int → V} {a b : Int} (c : C a b) (q : Q (f a b) H) : rI C f (.int a) (.int b) H Q := ⟨a, b, rfl, rfl, c, q⟩
theorem r_U {f : Int → V} {a : Int} (q : Q (f a) H) : rU f (.int a) H Q := ⟨a, rfl, q⟩
theorem r_eq (h : scal x y = true) (q : Q (.bl (decide (x = y))) H) : rEq x y H Q := ⟨h, q⟩
theorem r_ne (h : scal x y = true) (q : Q (.bl (!decide (x = y))) H) : rNe x y H Q := ⟨h, q⟩
theorem r_ixT {p : Addr} {xs : List V} {a : Int} (h : H p = some (.tup xs)) (e : atI xs a = some v) (q : Q v H) : rIxT K (.ref p) (.int a) H Q := ⟨p, xs, a, v, rfl, rfl, SqT.of h, e, q⟩
theorem r_ixL {p : Addr} {xs : List V} {a : Int} (h : H p = some (.lst xs)) (e : atI xs a = some v) (q : Q v H) : rIxL K (.ref p) (.int a) H Q := ⟨p, xs, a, v, rfl, rfl, SqL.of h, e, q⟩
theorem r_inT {p : Addr} {xs : List V} (h : SqT K H p xs) (f : flatV x = true) (a : xs.all flatV = true) (q : Q (.bl (inV x xs)) H) : rIn K false x (.ref p) H Q := ⟨p, xs, rfl, .inr h, f, a, q⟩
theorem r_niT {p : Addr} {xs : List V} (h : SqT K H p xs) (f : flatV x = true) (a : xs.all flatV = true) (q : Q (.bl (!inV x xs)) H) : rIn K true x (.ref p) H Q := ⟨p, xs, rfl, .inr h, f, a, q⟩
theorem k_bl {k : Bool} (q : QT k H) : ∃ k', V.bl k = .bl k' ∧ QT k' H := ⟨k, rfl, q⟩
theorem k_bl2 {k : Bool} {A : Bool → Prop} (q : A k) : ∃ k', V.bl k = .bl k' ∧ A k' := ⟨k, rfl, q⟩
theorem r_isi {a : Value} {c : String} {b : Bool} (ty : TyX K H x a) (e : PySem.W.kitOne K a (.type c) = some b) (q : Q (.bl b) H) : rIsi K [x, .ty c] H Q := ⟨x, .ty c, a, .type c, b, rfl, .ty c, ty, e, q⟩
theorem r_part {QO : Option Int → Hp → Prop} (h : te σ H fun x H1 => ∃ i, x = .int i ∧ QO (some i) H1) : tPart te σ H QO := h
theorem r_nopart {QO : Option Int → Hp → Prop} (h : QO none H) : tNoPart σ H QO := h
end
theorem if_t {c : Bool} {A B : Prop} (h : c = true) (a : A) : if c = true then A else B := by rw [if_pos h]; exact a
theorem if_f {c : Bool} {A B : Prop} (h : c = false) (b : B) : if c = true then A else B := by rw [h]; exact b

theorem isi_g {H : Hp} {Q : VK} {x : V} {K : PySem.W.Frag} {c : String} (h : rIsi K [x, .ty c] H Q) : rIsi K [x, .ty c] H Q := h
theorem r_isB {H : Hp} {Q : VK} {x : V} {K : PySem.W.Frag} {a c : String} {b : Bool} (ty : TyX K H x (.type a)) (e : kitB a c = some b) (q : Q (.bl b) H) : rIsi K [x, .ty c] H Q := r_isi ty (kit_ty e) q
theorem kk_int_int : kitB "int" "int" = some true := by decide +kernel
theorem kk_int_bool : kitB "int" "bool" = some false := by decide +kernel
theorem kk_int_str : kitB "int" "str" = some false := by decide +kernel
theorem kk_int_tuple : kitB "int" "tuple" = some false := by decide +kernel
theorem kk_bool_int : kitB "bool" "int" = some true := by decide +kernel
theorem kk_bool_bool : kitB "bool" "bool" = some true := by decide +kernel
theorem kk_bool_str : kitB "bool" "str" = some false := by decide +kernel
theorem kk_bool_tuple : kitB "bool" "tuple" = some false := by decide +kernel
theorem kk_str_int : kitB "str" "int" = some false := by decide +kernel
theorem kk_str_bool : kitB "str" "bool" = some false := by decide +kernel
theorem kk_str_str : kitB "str" "str" = some true := by decide +kernel
theorem kk_str_tuple : kitB "str" "tuple" = some false := by decide +kernel
theorem kk_NoneType_int : kitB "NoneType" "int" = some false := by decide +kernel
theorem kk_NoneType_bool : kitB "NoneType" "bool" = some false := by decide +kernel
theorem kk_NoneType_str : kitB "NoneType" "str" = some false := by decide +kernel
theorem kk_NoneType_tuple : kitB "NoneType" "tuple" = some false := by decide +kernel
theorem kk_tuple_int : kitB "tuple" "int" = some false := by decide +kernel
theorem kk_tuple_bool : kitB "tuple" "bool" = some false := by decide +kernel
theorem kk_tuple_str : kitB "tuple" "str" = some false := by decide +kernel
theorem kk_tuple_tuple : kitB "tuple" "tuple" = some true := by decide +kernel

theorem cx_K {CX : CXT} {P : Program} {w : World} {K : PySem.W.Frag} {mg : Str → Option Value} {base : Heap} {N : List Str} {q : Str} {sc : Scope} {f : Addr} {cd : Value} {A : Around} {o : List Env} {s : Shared} {H : Hp} {E : XK} : (cxOf CX P w K mg base N q sc f cd A o s H E).K = K := rfl
theorem cx_P {CX : CXT} {P : Program} {w : World} {K : PySem.W.Frag} {mg : Str → Option Value} {base : Heap} {N : List Str} {q : Str} {sc : Scope} {f : Addr} {cd : Value} {A : Around} {o : List Env} {s : Shared} {H : Hp} {E : XK} : (cxOf CX P w K mg base N q sc f cd A o s H E).prog = P := rfl
theorem cx_w {CX : CXT} {P : Program} {w : World} {K : PySem.W.Frag} {mg : Str → Option Value} {base : Heap} {N : List Str} {q : Str} {sc : Scope} {f : Addr} {cd : Value} {A : Around} {o : List Env} {s : Shared} {H : Hp} {E : XK} : (cxOf CX P w K mg base N q sc f cd A o s H E).w = w := rfl
theorem ws_K {X : Cx} {E : Value → Shared → Prop} : (Cx.wish X E).K = X.K := rfl
theorem ws_P {X : Cx} {E : Value → Shared → Prop} : (Cx.wish X E).prog = X.prog := rfl
theorem ws_w {X : Cx} {E : Value → Shared → Prop} : (Cx.wish X E).w = X.w := rfl

theorem if_tt {A B : Prop} (a : A) : if true = true then A else B := by rw [if_pos rfl]; exact a
theorem if_ff {A B : Prop} (b : B) : if false = true then A else B := by rw [if_neg Bool.false_ne_true]; exact b
theorem if_nf {A B : Prop} (a : A) : if (!false) = true then A else B := by rw [Bool.not_false, if_pos rfl]; exact a
theorem if_nt {A B : Prop} (b : B) : if (!true) = true then A else B := by rw [Bool.not_true, if_neg Bool.false_ne_true]; exact b

theorem look_old {H : Hp} {a p : Addr} {o u : HO} (h : H a = some o) (n : H p = none) : upd H p u a = some o := by rw [upd_ne (ne_of_none h n)]; exact h
theorem sz10 {n : Nat} (h : n ≤ 100000) : n ≤ sizeLine := Nat.le_trans h (by decide)

theorem at0 {v : V} {r : List V} : atI (v :: r) 0 = some v := atI_nat (j := 0) rfl
theorem at1 {u v : V} {r : List V} : atI (u :: v :: r) 1 = some v := atI_nat (j := 1) rfl
theorem at2 {u v z : V} {r : List V} : atI (u :: v :: z :: r) 2 = some z := atI_nat (j := 2) rfl
end Snk
set_option Elab.async false
set_option linter.all false
set_option maxRecDepth 100000
set_option maxHeartbeats 0
/-! # The head: the facts of the written part, by the kernel's run of the top -/
namespace PySem
namespace BadX
/-- the def within the class -/
def inC (s : Stmt) : Stmt := match s with
  | .ClassDef _ _ _ (b :: _) _ _ _ _ _ _ _ => b
  | s => s
abbrev iA : Arguments := L2.defArgs (inC (Snk.topS 2))
abbrev iB : List Stmt := L2.defBody (inC (Snk.topS 2))
abbrev iS : Scope := L2.defScope (inC (Snk.topS 2))
end BadX
end PySem
namespace Snk
open PySem PySem.Spec PyProof.Rows L2

def dis_integer : He.DefD := ⟨("is_integer", none), "is_integer", "is_integer", defArgs (topS 7), defBody (topS 7), defScope (topS 7), [], []⟩
def dis_printable : He.DefD := ⟨("is_printable", none), "is_printable", "is_printable", defArgs (topS 8), defBody (topS 8), defScope (topS 8), [], []⟩
def dis_word : He.DefD := ⟨("is_word", none), "is_word", "is_word", defArgs (topS 9), defBody (topS 9), defScope (topS 9), [], []⟩
def dkind_bounds : He.DefD := ⟨("kind_bounds", none), "kind_bounds", "kind_bounds", defArgs (topS 12), defBody (topS 12), defScope (topS 12), [], []⟩
def dliteral_bounds : He.DefD := ⟨("literal_bounds", none), "literal_bounds", "literal_bounds", defArgs (topS 13), defBody (topS 13), defScope (topS 13), [], []⟩
def dunion : He.DefD := ⟨("union", none), "union", "union", defArgs (topS 14), defBody (topS 14), defScope (topS 14), [], []⟩
def dpair_kinds : He.DefD := ⟨("pair_kinds", none), "pair_kinds", "pair_kinds", defArgs (topS 15), defBody (topS 15), defScope (topS 15), [], []⟩
def dpair_bounds : He.DefD := ⟨("pair_bounds", none), "pair_bounds", "pair_bounds", defArgs (topS 16), defBody (topS 16), defScope (topS 16), [], []⟩
def dsingle_kind : He.DefD := ⟨("single_kind", none), "single_kind", "single_kind", defArgs (topS 17), defBody (topS 17), defScope (topS 17), [], []⟩
def dsingle_bounds : He.DefD := ⟨("single_bounds", none), "single_bounds", "single_bounds", defArgs (topS 18), defBody (topS 18), defScope (topS 18), [], []⟩
def dis_large : He.DefD := ⟨("is_large", none), "is_large", "is_large", defArgs (topS 19), defBody (topS 19), defScope (topS 19), [], []⟩
def dwithin : He.DefD := ⟨("within", none), "within", "within", defArgs (topS 20), defBody (topS 20), defScope (topS 20), [], []⟩
def dcombine : He.DefD := ⟨("combine", none), "combine", "combine", defArgs (topS 22), defBody (topS 22), defScope (topS 22), [], []⟩
def dalter : He.DefD := ⟨("alter", none), "alter", "alter", defArgs (topS 23), defBody (topS 23), defScope (topS 23), [], []⟩
def dis_constant : He.DefD := ⟨("is_constant", none), "is_constant", "is_constant", defArgs (topS 27), defBody (topS 27), defScope (topS 27), [], []⟩
def dis_instruction : He.DefD := ⟨("is_instruction", none), "is_instruction", "is_instruction", defArgs (topS 28), defBody (topS 28), defScope (topS 28), [], []⟩
def dstep : He.DefD := ⟨("step", none), "step", "step", defArgs (topS 29), defBody (topS 29), defScope (topS 29), [], []⟩
def drun : He.DefD := ⟨("run", none), "run", "run", defArgs (topS 30), defBody (topS 30), defScope (topS 30), [], []⟩
def dcheck_form : He.DefD := ⟨("check_form", none), "check_form", "check_form", defArgs (topS 32), defBody (topS 32), defScope (topS 32), [], []⟩
def dconstant_bounds : He.DefD := ⟨("constant_bounds", none), "constant_bounds", "constant_bounds", defArgs (topS 33), defBody (topS 33), defScope (topS 33), [], []⟩
def dmerged : He.DefD := ⟨("merged", none), "merged", "merged", defArgs (topS 34), defBody (topS 34), defScope (topS 34), [], []⟩
def dneeded : He.DefD := ⟨("needed", none), "needed", "needed", defArgs (topS 35), defBody (topS 35), defScope (topS 35), [], []⟩
def dresult : He.DefD := ⟨("result", none), "result", "result", defArgs (topS 36), defBody (topS 36), defScope (topS 36), [], []⟩
def dafter : He.DefD := ⟨("after", none), "after", "after", defArgs (topS 37), defBody (topS 37), defScope (topS 37), [], []⟩
def djudge : He.DefD := ⟨("judge", none), "judge", "judge", defArgs (topS 38), defBody (topS 38), defScope (topS 38), [], []⟩
def dL_cell : He.DefD := ⟨("_law_cell", none), "_law_cell", "_law_cell", defArgs (topS 40), defBody (topS 40), defScope (topS 40), [], []⟩
def dL_draws : He.DefD := ⟨("_law_draws", none), "_law_draws", "_law_draws", defArgs (topS 41), defBody (topS 41), defScope (topS 41), [], []⟩
def dL_next : He.DefD := ⟨("_law_next", none), "_law_next", "_law_next", defArgs (topS 42), defBody (topS 42), defScope (topS 42), [], []⟩
def dL_kind : He.DefD := ⟨("_law_kind", none), "_law_kind", "_law_kind", defArgs (topS 43), defBody (topS 43), defScope (topS 43), [], []⟩
def dL_schema : He.DefD := ⟨("_law_schema", none), "_law_schema", "_law_schema", defArgs (topS 44), defBody (topS 44), defScope (topS 44), [], []⟩
def dL_value : He.DefD := ⟨("_law_value", none), "_law_value", "_law_value", defArgs (topS 45), defBody (topS 45), defScope (topS 45), [], []⟩
def dL_record : He.DefD := ⟨("_law_record", none), "_law_record", "_law_record", defArgs (topS 46), defBody (topS 46), defScope (topS 46), [], []⟩
def dL_leaf : He.DefD := ⟨("_law_leaf", none), "_law_leaf", "_law_leaf", defArgs (topS 47), defBody (topS 47), defScope (topS 47), [], []⟩
def dL_expression : He.DefD := ⟨("_law_expression", none), "_law_expression", "_law_expression", defArgs (topS 48), defBody (topS 48), defScope (topS 48), [], []⟩
def dL_set : He.DefD := ⟨("_law_set", none), "_law_set", "_law_set", defArgs (topS 49), defBody (topS 49), defScope (topS 49), [], []⟩
def dL_made : He.DefD := ⟨("_law_made", none), "_law_made", "_law_made", defArgs (topS 50), defBody (topS 50), defScope (topS 50), [], []⟩
def dL_nodes : He.DefD := ⟨("_law_nodes", none), "_law_nodes", "_law_nodes", defArgs (topS 51), defBody (topS 51), defScope (topS 51), [], []⟩
def dL_size : He.DefD := ⟨("_law_size", none), "_law_size", "_law_size", defArgs (topS 52), defBody (topS 52), defScope (topS 52), [], []⟩
def dL_program : He.DefD := ⟨("_law_program", none), "_law_program", "_law_program", defArgs (topS 53), defBody (topS 53), defScope (topS 53), [], []⟩
def dL_at : He.DefD := ⟨("_law_at", none), "_law_at", "_law_at", defArgs (topS 54), defBody (topS 54), defScope (topS 54), [], []⟩
def dL_code : He.DefD := ⟨("_law_code", none), "_law_code", "_law_code", defArgs (topS 55), defBody (topS 55), defScope (topS 55), [], []⟩
def dL_block : He.DefD := ⟨("_law_block", none), "_law_block", "_law_block", defArgs (topS 56), defBody (topS 56), defScope (topS 56), [], []⟩
def dL_eval : He.DefD := ⟨("_law_eval", none), "_law_eval", "_law_eval", defArgs (topS 57), defBody (topS 57), defScope (topS 57), [], []⟩
def dL_exact : He.DefD := ⟨("_law_exact", none), "_law_exact", "_law_exact", defArgs (topS 58), defBody (topS 58), defScope (topS 58), [], []⟩
def dL_instruction : He.DefD := ⟨("_law_instruction", none), "_law_instruction", "_law_instruction", defArgs (topS 59), defBody (topS 59), defScope (topS 59), [], []⟩
def dL_changed : He.DefD := ⟨("_law_changed", none), "_law_changed", "_law_changed", defArgs (topS 60), defBody (topS 60), defScope (topS 60), [], []⟩
def dL_machine : He.DefD := ⟨("_law_machine", none), "_law_machine", "_law_machine", defArgs (topS 61), defBody (topS 61), defScope (topS 61), [], []⟩
def dL_valid : He.DefD := ⟨("_law_valid", none), "_law_valid", "_law_valid", defArgs (topS 62), defBody (topS 62), defScope (topS 62), [], []⟩
def dL_accepted : He.DefD := ⟨("_law_accepted", none), "_law_accepted", "_law_accepted", defArgs (topS 63), defBody (topS 63), defScope (topS 63), [], []⟩
def dlaw : He.DefD := ⟨("law", none), "law", "law", defArgs (topS 64), defBody (topS 64), defScope (topS 64), [], []⟩
def fnL : List He.DefD := [dis_integer, dis_printable, dis_word, dkind_bounds, dliteral_bounds, dunion, dpair_kinds, dpair_bounds, dsingle_kind, dsingle_bounds, dis_large, dwithin, dcombine, dalter, dis_constant, dis_instruction, dstep, drun, dcheck_form, dconstant_bounds, dmerged, dneeded, dresult, dafter, djudge, dL_cell, dL_draws, dL_next, dL_kind, dL_schema, dL_value, dL_record, dL_leaf, dL_expression, dL_set, dL_made, dL_nodes, dL_size, dL_program, dL_at, dL_code, dL_block, dL_eval, dL_exact, dL_instruction, dL_changed, dL_machine, dL_valid, dL_accepted, dlaw]
def faL : List He.Fa := [.glo "is_integer", .glo "is_printable", .glo "is_word", .glo "kind_bounds", .glo "literal_bounds", .glo "union", .glo "pair_kinds", .glo "pair_bounds", .glo "single_kind", .glo "single_bounds", .glo "is_large", .glo "within", .glo "combine", .glo "alter", .glo "is_constant", .glo "is_instruction", .glo "step", .glo "run", .glo "check_form", .glo "constant_bounds", .glo "merged", .glo "needed", .glo "result", .glo "after", .glo "judge", .glo "_law_cell", .glo "_law_draws", .glo "_law_next", .glo "_law_kind", .glo "_law_schema", .glo "_law_value", .glo "_law_record", .glo "_law_leaf", .glo "_law_expression", .glo "_law_set", .glo "_law_made", .glo "_law_nodes", .glo "_law_size", .glo "_law_program", .glo "_law_at", .glo "_law_code", .glo "_law_block", .glo "_law_eval", .glo "_law_exact", .glo "_law_instruction", .glo "_law_changed", .glo "_law_machine", .glo "_law_valid", .glo "_law_accepted", .glo "law", .glo "BadCode", .glo "PAIRS", .int "LIMIT" 1000000000000000000, .int "FIELD_LIMIT" 1000000000, .int "MOST_TEXT" 40, .int "MOST_LENGTH" 200, .int "MOST_CODE" 400, .free "isinstance", .free "len", .free "range", .free "min", .free "max", .free "int", .free "bool", .free "str", .free "tuple", .free "list", .free "set", .free "sorted", .free "all", .free "abs", .free "ord", .free "super", .free "ValueError"]
def tfL : List He.Defn := [("within", none)]
def pairsD : List He.Dv := [.str "add", .str "sub", .str "mul", .str "min", .str "max", .str "less", .str "same", .str "and", .str "or", .str "join"]
/-! ### what is asked of BadCode -/
abbrev aC (K : PySem.W.Frag) : Addr := He.ga K "BadCode"
abbrev aI (K : PySem.W.Frag) : Addr := He.ma K (aC K) "__init__"
def clsB (K : PySem.W.Frag) : Bool := match K.lookup (aC K) with
  | some ⟨.type c, _, .cls cd, sl⟩ => decide (c = "type") && ((match cd.mro with
    | .ref C' :: bm => decide (C' = aC K) && (PySem.HandSPX.refsVE bm && He.eqO (PySem.W.alongIn K "__init__" bm) (some (some (.builtin "ValueError.__init__"))))
    | _ => false) && ((match sl.toList with
    | [_, _, _, _, some (.builtin n), _] => decide (n = "ValueError.__new__")
    | _ => false) && ((match cd.hasDel with
    | false => true
    | true => false) && cd.hasDict)))
  | _ => false
def lokB (K : PySem.W.Frag) : Bool := He.eqO (PySem.W.findIn K (.ref (aC K)) "__setattr__") (some (some (.builtin "object.__setattr__"))) && (He.eqO (PySem.W.findIn K (.ref (aC K)) "index") (some none) && (He.eqO (PySem.W.findIn K (.ref (aC K)) "reason") (some none) &&
  (He.eqO (PySem.W.findIn K (.ref (aC K)) "__init__") (some (some (.ref (aI K)))) && (decide (PySem.W.typeIn K (.ref (aI K)) = some (.type "function")) && (PySem.W.keepIn K (.ref (aC K)) && (decide (PySem.W.subIn K (.ref (aC K)) (.type "BaseException") = some true) &&
  (decide (PySem.W.subIn K (.ref (aC K)) (.type "ValueError") = some true) && (decide (PySem.W.typeIn K (.ref (aC K)) = some (.type "type")) && (decide (PySem.W.exmOne K (.ref (aC K)) (.ref (aC K)) = some true) && He.eqO (PySem.W.nsIn K PySem.cStatics "thirdparty.any") (some none))))))))))
def celB (K : PySem.W.Frag) (cc : Addr) : Bool := match K.lookup cc with
  | some ⟨_, _, .cell (some (.ref C')), _⟩ => decide (C' = aC K)
  | _ => false
def codB (file : Str) (K : PySem.W.Frag) (cda : Addr) : Bool := PySem.W.codeIn K (.ref cda) "BadCode.__init__" && (match K.lookup cda with
  | some ⟨_, _, .fields vs, _⟩ => (match (vs[2]? : Option Value) with
    | some (.str f _) => file == f
    | _ => false)
  | _ => false)
def iniB (file : Str) (K : PySem.W.Frag) : Bool := match K.lookup (aI K) with
  | some ⟨_, _, .func fd, _⟩ => (match fd.closure with
    | [(_, cc)] => celB K cc
    | _ => false) && ((match fd.code with
    | .ref cda => codB file K cda
    | _ => false) && (match fd.defaults with
    | .none => true
    | _ => false))
  | _ => false
abbrev IniV : Type := Option (Str × Str × Arguments × FuncBody × Scope × Addr × List Str × Addr)
def iniO (K : PySem.W.Frag) : IniV := match K.lookup (aI K) with
  | some ⟨_, _, .func fd, _⟩ => some (fd.name, fd.qualname, fd.params, fd.body, fd.scope, fd.globals, fd.closure.map (·.1), fd.builtins)
  | _ => none
def iniE : IniV := some ("__init__", "BadCode.__init__", PySem.BadX.iA, .stmts PySem.BadX.iB, PySem.BadX.iS, mainGlobals, ["__class__"], builtinsNs)
abbrev RR : PySem.W.OpenRow := PySem.W.OpenLaw.row PySem.Challenge.rw_sinktree_k12_whole_judge_is_sound
def exL (K : PySem.W.Frag) : Bool := He.tupB K "PAIRS" pairsD && (clsB K && (lokB K && iniB RR.prog.main.file K))
/-! ### the Hook: the module's names, and the addresses of the built-in statics -/
abbrev fragY (g : Addr → Option Obj) : PySem.W.Frag := He.frT g (PySem.cStatics :: He.asD g 4)
abbrev AlY : Type := He.AlX × IniV
def obsY (g : Addr → Option Obj) : AlY := ((He.obsT faL fnL [] (fragY g), exL (fragY g) && He.tabsB g tfL (fragY g)), iniO (fragY g))
def valY (w : World) : AlY := (He.valX fnL [] w, iniE)
structure SaysY (w : World) (h : Heap) (K : PySem.W.Frag) : Prop where
  x : He.SaysX faL fnL [] tfL exL w h K
  ini : iniO K = iniE
theorem saysY_of {w : World} {h : Heap} (e : obsY h.get? = valY w) : SaysY w h (fragY h.get?) := by
  have p := congrArg (fun z : AlY => z.1.1) e
  have q := congrArg (fun z : AlY => z.1.2) e
  have r := congrArg (fun z : AlY => z.2) e
  have q2 : (exL (fragY h.get?) && He.tabsB h.get? tfL (fragY h.get?)) = true := q
  obtain ⟨q3, q4⟩ := He.ba q2
  have each : ∀ d ∈ tfL, PySem.W.codeHdIn (fragY h.get?) (He.cT (fragY h.get?) d).1 (He.cT (fragY h.get?) d).2 = true ∧ ∃ u, h.get? (He.cT (fragY h.get?) d).2 = some u ∧ He.emptyTab u = true := by
    intro d hd
    obtain ⟨a1, a2⟩ := He.ba (List.all_eq_true.mp q4 d hd)
    cases z : h.get? (He.cT (fragY h.get?) d).2 with
    | none => rw [z] at a2; cases a2
    | some u => rw [z] at a2; exact ⟨a1, u, rfl, a2⟩
  refine ⟨⟨p, q3, fun d hd => (each d hd).1, fun d hd => ?_, fun d hd => ?_⟩, r⟩
  · obtain ⟨_, u, a, b⟩ := each d hd
    exact He.frT_none a b
  · obtain ⟨_, u, a, b⟩ := each d hd
    rw [a, He.emptyTab_eq b]
def hk : PySem.W.Hook where
  α := AlY
  obs := fun s => obsY s.heap.get?
  val := valY
  says := fun w h => ∃ K : PySem.W.Frag, K.In h ∧ SaysY w h K
  of := fun _ _ e => ⟨_, He.frT_in, saysY_of e⟩
  keeps := fun _ _ _ z k => by
    obtain ⟨K, hK, c⟩ := z
    exact ⟨K, PySem.W.Frag.In.keeps hK k, ⟨⟨c.x.t, c.x.more, c.x.hd, c.x.out, fun p hp => k _ _ (c.x.empty p hp)⟩, c.ini⟩⟩
def ob (s : PySem.W.SharedT) : AlY := obsY (HandSHeadRun.getT s)
theorem ob_eq (s : PySem.W.SharedT) : ob s = hk.obs s.abs := by
  have e : HandSHeadRun.getT s = s.abs.heap.get? := funext (HandSHeadRun.getT_eq s)
  unfold ob
  rw [e]
  rfl
def looseA : List Str := ["SinkError", "BadCode", "LIMIT", "FIELD_LIMIT", "MOST_TEXT", "is_integer", "is_printable", "is_word", "MOST_LENGTH", "kind_bounds", "literal_bounds", "union", "pair_kinds", "pair_bounds", "single_kind", "single_bounds", "is_large", "within", "combine", "alter", "PAIRS", "MOST_CODE", "is_constant", "is_instruction", "step", "run", "check_form", "constant_bounds", "merged", "needed"]
def looseB : List Str := ["result", "after", "judge", "_law_cell", "_law_draws", "_law_next", "_law_kind", "_law_schema", "_law_value", "_law_record", "_law_leaf", "_law_expression", "_law_set", "_law_made", "_law_nodes", "_law_size", "_law_program", "_law_at", "_law_code", "_law_block", "_law_eval", "_law_exact", "_law_instruction", "_law_changed", "_law_machine", "_law_valid", "_law_accepted"]
theorem run (w : World) : HandSHeadRun.RunEq RR (PySem.W.view RR.prog [64]) hk ob 4000 (looseA ++ looseB) w := by
  intro os
  kernel_rfl
end Snk
namespace Snk
open PySem PySem.W PySem.Calls PyProof.Rows
/-- all but the law's own walk -/
theorem pre (hF : ∀ (w : World) (mg : Str → Option Value) (fa : Addr) (h : Heap) (K : Frag), K.In h → SaysY w h K → h.Ns mainGlobals mg → mg ("law" : Str) = some (.ref fa) → LamX.LawAtS PySem.Challenge.rw_sinktree_k12_whole_judge_is_sound w K L2.CX0 12 63 "_law_script" mg fa h) : PySem.Challenge.rw_sinktree_k12_whole_judge_is_sound.Holds := by
  w_on; o_law
  refine HandSHeadRun.head_any (r := OpenLaw.row PySem.Challenge.rw_sinktree_k12_whole_judge_is_sound) (q := view (OpenLaw.row PySem.Challenge.rw_sinktree_k12_whole_judge_is_sound).prog [64]) (H := Snk.hk) (ob := Snk.ob) (M := 4000) (loose := Snk.looseA ++ Snk.looseB) (d := HandSHeadRun.topDef (OpenLaw.row PySem.Challenge.rw_sinktree_k12_whole_judge_is_sound).prog 64) (kwd := []) Snk.ob_eq
    (by kernel_rfl) (fun s => by kernel_rfl) Snk.run (by kernel_rfl) (by kernel_rfl) (by kernel_rfl) (by rfl) (by first | assumption | decide +kernel) (by decide +kernel) ⟨rfl, rfl, rfl, rfl, rfl, by decide +kernel⟩ ?hw ?hc
  case hw => w_witness2
  case hc =>
    refine LamX.walk_ofTsE (l := PySem.Challenge.rw_sinktree_k12_whole_judge_is_sound) (n := 63) (k := 12) (x := "_law_script") (CX := fun _ => L2.CX0) rfl (by decide) (by kernel_rfl) ⟨rfl, by decide, by decide⟩ ?F (fun _ _ _ _ _ z => z)
    intro w mg fa h Y G hmg0
    obtain ⟨K, KX, c⟩ := Y
    have hmg : mg ("law" : PySem.Str) = some (.ref fa) := by
      have e : (HandSHeadRun.topDef (OpenLaw.row PySem.Challenge.rw_sinktree_k12_whole_judge_is_sound).prog 64).name = ("law" : PySem.Str) := by kernel_rfl
      rw [← e]
      exact hmg0
    exact ⟨K, KX, hF w mg fa h K KX c G hmg⟩
end Snk
set_option Elab.async false
set_option linter.all false
set_option maxRecDepth 100000
set_option maxHeartbeats 4000000
/-! # Part 2: bounds, machine steps, soundness (no program in sight) -/
namespace Snk
open PySem PySem.Spec PyProof.Rows L2

/-- bounds; kinds of fields have the same shape -/
inductive Bd where
  | int (lo hi : Int)
  | flag
  | word (ws : List Str)
  | text (n : Int)
def Bd.head : Bd → Str
  | .int _ _ => "int"
  | .flag => "flag"
  | .word _ => "word"
  | .text _ => "text"
inductive Kn where
  | i | f | w | t
def Bd.kn : Bd → Kn
  | .int _ _ => .i
  | .flag => .f
  | .word _ => .w
  | .text _ => .t
theorem head_kn {a b : Bd} (h : a.head = b.head) : a.kn = b.kn := by
  cases a <;> cases b <;> first | rfl | exact absurd (show (("int" : Str)) = "flag" from h) (by decide +kernel) | exact absurd (show (("int" : Str)) = "word" from h) (by decide +kernel) | exact absurd (show (("int" : Str)) = "text" from h) (by decide +kernel) | exact absurd (show (("flag" : Str)) = "int" from h) (by decide +kernel) | exact absurd (show (("flag" : Str)) = "word" from h) (by decide +kernel) | exact absurd (show (("flag" : Str)) = "text" from h) (by decide +kernel) | exact absurd (show (("word" : Str)) = "int" from h) (by decide +kernel) | exact absurd (show (("word" : Str)) = "flag" from h) (by decide +kernel) | exact absurd (show (("word" : Str)) = "text" from h) (by decide +kernel) | exact absurd (show (("text" : Str)) = "int" from h) (by decide +kernel) | exact absurd (show (("text" : Str)) = "flag" from h) (by decide +kernel) | exact absurd (show (("text" : Str)) = "word" from h) (by decide +kernel)
theorem kn_head {a b : Bd} (h : a.kn = b.kn) : a.head = b.head := by
  cases a <;> cases b <;> first | rfl | cases h
/-- the values within bounds -/
def Gam : Bd → V → Prop
  | .int lo hi, v => ∃ i, v = .int i ∧ lo ≤ i ∧ i ≤ hi
  | .flag, v => ∃ b, v = .bl b
  | .word ws, v => ∃ s, v = .str s ∧ s ∈ ws
  | .text n, v => ∃ s : Str, v = .str s ∧ (s.length : Int) ≤ n
def WRD : List Str := ["a", "if", "lost", "new", "old", "zz"]
def WOk (ws : List Str) : Prop := ws.Nodup ∧ ∀ s ∈ ws, s ∈ WRD
def BdOk : Bd → Prop
  | .int lo hi => -1000000000000000000 ≤ lo ∧ lo ≤ hi ∧ hi ≤ 1000000000000000000
  | .flag => True
  | .word ws => WOk ws
  | .text n => 0 ≤ n ∧ n ≤ 200
/-- ahead of the look at its size -/
def BdPre : Bd → Prop
  | .int lo hi => lo ≤ hi
  | .flag => True
  | .word ws => WOk ws
  | .text n => 0 ≤ n ∧ n ≤ 400
theorem BdOk.pre {b : Bd} (h : BdOk b) : BdPre b := by
  cases b with
  | int lo hi => exact h.2.1
  | flag => trivial
  | word ws => exact h
  | text n => exact ⟨h.1, by have := h.2; omega⟩
def KindOk : Bd → Prop
  | .int lo hi => -1000000000 ≤ lo ∧ lo ≤ hi ∧ hi ≤ 1000000000
  | .flag => True
  | .word ws => WOk ws ∧ ws ≠ []
  | .text n => 0 ≤ n ∧ n ≤ 40
theorem KindOk.ok {b : Bd} (h : KindOk b) : BdOk b := by
  cases b with
  | int lo hi => exact ⟨by have := h.1; omega, h.2.1, by have := h.2.2; omega⟩
  | flag => trivial
  | word ws => exact h.1
  | text n => exact ⟨h.1, by have := h.2; omega⟩
/-- a is within b -/
def Sub (a b : Bd) : Prop := a.head = b.head ∧ ∀ v, Gam a v → Gam b v
theorem Sub.refl (a : Bd) : Sub a a := ⟨rfl, fun _ h => h⟩
theorem Sub.trans {a b c : Bd} (h : Sub a b) (k : Sub b c) : Sub a c := ⟨h.1.trans k.1, fun v q => k.2 v (h.2 v q)⟩

/-! ### a short list of words -/
theorem nodup_le : ∀ {l m : List Str}, l.Nodup → (∀ s ∈ l, s ∈ m) → l.length ≤ m.length
  | [], _, _, _ => Nat.zero_le _
  | a :: l, m, hn, hs => by
    obtain ⟨h1, h2⟩ := List.nodup_cons.mp hn
    have ha : a ∈ m := hs a List.mem_cons_self
    have ih := nodup_le (l := l) (m := m.erase a) h2 fun s hs' => (List.mem_erase_of_ne (fun e => h1 (by rw [← e]; exact hs'))).2 (hs s (List.mem_cons_of_mem _ hs'))
    have e := List.length_erase_of_mem ha
    have p : 0 < m.length := List.length_pos_of_mem ha
    rw [List.length_cons]
    omega
theorem WOk.len {ws : List Str} (h : WOk ws) : ws.length ≤ 6 := nodup_le h.1 h.2
theorem WRD_len {s : Str} (h : s ∈ WRD) : s.length ≤ 4 := by
  have k : WRD.all (fun s => decide (s.length ≤ 4)) = true := by decide +kernel
  exact of_decide_eq_true (List.all_eq_true.mp k s h)

/-! ### operators -/
inductive POp where
  | add | sub | mul | mn | mx | less | same | and_ | or_ | join
def POp.nm : POp → Str
  | .add => "add" | .sub => "sub" | .mul => "mul" | .mn => "min" | .mx => "max" | .less => "less" | .same => "same" | .and_ => "and" | .or_ => "or" | .join => "join"
def IsInt : Bd → Prop
  | .int _ _ => True
  | _ => False
def IsFlag : Bd → Prop
  | .flag => True
  | _ => False
def IsText : Bd → Prop
  | .text _ => True
  | _ => False
def PairK : POp → Bd → Bd → Prop
  | .and_, a, b => IsFlag a ∧ IsFlag b
  | .or_, a, b => IsFlag a ∧ IsFlag b
  | .join, a, b => IsText a ∧ IsText b
  | .same, a, b => a.head = b.head
  | _, a, b => IsInt a ∧ IsInt b
/-- what an operator does on values -/
inductive PairV : POp → V → V → V → Prop where
  | add {i j : Int} : PairV .add (.int i) (.int j) (.int (i + j))
  | sub {i j : Int} : PairV .sub (.int i) (.int j) (.int (i - j))
  | mul {i j : Int} (h : -1000000000000000000 ≤ i ∧ i ≤ 1000000000000000000) : PairV .mul (.int i) (.int j) (.int (i * j))
  | mn {i j : Int} : PairV .mn (.int i) (.int j) (.int (if j < i then j else i))
  | mx {i j : Int} : PairV .mx (.int i) (.int j) (.int (if j > i then j else i))
  | less {i j : Int} : PairV .less (.int i) (.int j) (.bl (decide (i < j)))
  | same {a b : V} (h : scal a b = true) : PairV .same a b (.bl (decide (a = b)))
  | and_ {a b : Bool} : PairV .and_ (.bl a) (.bl b) (.bl (a && b))
  | or_ {a b : Bool} : PairV .or_ (.bl a) (.bl b) (.bl (a || b))
  | join {s t : Str} (h : s.length + t.length ≤ 1000) : PairV .join (.str s) (.str t) (.str (s ++ t))
def PairSnd (o : POp) (a b c : Bd) : Prop := ∀ v w, Gam a v → Gam b w → ∃ z, PairV o v w z ∧ Gam c z

/-! ### instructions -/
inductive Ins where
  | push (v : V) | word (s : Str) | load (i : Int) | store (i : Int) | pair (o : POp) | not | pick | div (n : Int) | mod (n : Int) | cut (n : Int) | jump (k : Int) | unless (k : Int)
def Ins.row : Ins → List V
  | .push v => [.str "push", v]
  | .word s => [.str "word", .str s]
  | .load i => [.str "load", .int i]
  | .store i => [.str "store", .int i]
  | .pair o => [.str o.nm]
  | .not => [.str "not"]
  | .pick => [.str "pick"]
  | .div n => [.str "div", .int n]
  | .mod n => [.str "mod", .int n]
  | .cut n => [.str "cut", .int n]
  | .jump k => [.str "jump", .int k]
  | .unless k => [.str "unless", .int k]
/-- a constant of push -/
def Cst : V → Prop
  | .int i => -1000000000000000000 ≤ i ∧ i ≤ 1000000000000000000
  | .bl _ => True
  | .str s => s.length ≤ 40
  | _ => False
def InsOk : Ins → Prop
  | .push v => Cst v
  | .word s => s ∈ WRD
  | .load i => 0 ≤ i ∧ i ≤ 1000000000
  | .store i => 0 ≤ i ∧ i ≤ 1000000000
  | .div n => 1 ≤ n ∧ n ≤ 1000000000
  | .mod n => 1 ≤ n ∧ n ≤ 1000000000
  | .cut n => 0 ≤ n ∧ n ≤ 40
  | .jump k => 0 ≤ k ∧ k ≤ 1000000000
  | .unless k => 0 ≤ k ∧ k ≤ 1000000000
  | _ => True
def skipOf : Ins → Option Int
  | .jump k => some k
  | .unless k => some k
  | _ => none
def IsJump : Ins → Prop
  | .jump _ => True
  | _ => False
/-- an operator: what it takes, what it gives -/
inductive OpV : Ins → List V → V → Prop where
  | pair {o : POp} {a b c : V} (h : PairV o a b c) : OpV (.pair o) [a, b] c
  | not {b : Bool} : OpV .not [.bl b] (.bl (!b))
  | pick {c : Bool} {a b : V} : OpV .pick [.bl c, a, b] (if c = true then a else b)
  | div {n i : Int} (h : 1 ≤ n ∧ n ≤ 1000000000) : OpV (.div n) [.int i] (.int (i.fdiv n))
  | mod {n i : Int} (h : 1 ≤ n ∧ n ≤ 1000000000) : OpV (.mod n) [.int i] (.int (i.fmod n))
  | cut {n : Int} {s : Str} (h : s.length ≤ 1000) (h0 : 0 ≤ n) : OpV (.cut n) [.str s] (.str (cutS s none (some n)))
/-- one step: stack and values before, after, and how far it skips -/
inductive StepV : Ins → List V → List V → List V → List V → Int → Prop where
  | push {v : V} {s r : List V} : StepV (.push v) s r (s ++ [v]) r 0
  | word {z : Str} {s r : List V} : StepV (.word z) s r (s ++ [.str z]) r 0
  | load {i : Int} {v : V} {s r : List V} (h0 : 0 ≤ i) (h : r[i.toNat]? = some v) : StepV (.load i) s r (s ++ [v]) r 0
  | store {i : Int} {v : V} {s r : List V} (h0 : 0 ≤ i) (h : i.toNat < r.length) : StepV (.store i) (s ++ [v]) r s (r.set i.toNat v) 0
  | op {x : Ins} {vs s r : List V} {z : V} (h : OpV x vs z) : StepV x (s ++ vs) r (s ++ [z]) r 0
  | jump {k : Int} {s r : List V} : StepV (.jump k) s r s r k
  | unless {k : Int} {b : Bool} {s r : List V} : StepV (.unless k) (s ++ [.bl b]) r s r (if b = true then 0 else k)
/-- the machine runs from a place on to the end -/
inductive Run (cs : List Ins) : Nat → List V → List V → List V → Prop where
  | done {at_ : Nat} {s r : List V} (h : cs.length ≤ at_) : Run cs at_ s r r
  | step {at_ : Nat} {x : Ins} {s r s' r' q : List V} {d : Int} (h : cs[at_]? = some x) (hs : StepV x s r s' r' d) (hd : 0 ≤ d) (k : Run cs (at_ + 1 + d.toNat) s' r' q) : Run cs at_ s r q

/-! ### what the judge finds -/
abbrev FitS (st : List Bd) (s : List V) : Prop := Paired Gam st s
def AfterOk (sch : List Bd) (x : Ins) (st st' : List Bd) : Prop :=
  ∀ s r, FitS st s → FitS sch r → ∃ s' r' d, StepV x s r s' r' d ∧ FitS st' s' ∧ FitS sch r' ∧ ((d = 0 ∧ ¬ IsJump x) ∨ skipOf x = some d)
def SubS (a b : List Bd) : Prop := Paired Sub a b
theorem SubS.fit : ∀ {a b : List Bd} {s : List V}, SubS a b → FitS a s → FitS b s
  | _, _, _, .nil, .nil => .nil
  | _, _, _, .cons h t, .cons g r => .cons (h.2 _ g) (SubS.fit t r)
theorem SubS.refl : ∀ a : List Bd, SubS a a
  | [] => .nil
  | b :: r => .cons (Sub.refl b) (SubS.refl r)
theorem SubS.trans : ∀ {a b c : List Bd}, SubS a b → SubS b c → SubS a c
  | _, _, _, .nil, .nil => .nil
  | _, _, _, .cons h t, .cons g r => .cons (h.trans g) (SubS.trans t r)
structure Accepted (sch : List Bd) (cs : List Ins) : Prop where
  ok : ∀ x ∈ cs, InsOk x
  ex : ∃ I : Nat → List (List Bd), [] ∈ I 0 ∧ ∀ (i : Nat) (x : Ins), cs[i]? = some x → I i ≠ [] → ∃ st st', (∀ s ∈ I i, SubS s st) ∧ AfterOk sch x st st' ∧ (∀ k, skipOf x = some k → 0 ≤ k ∧ st' ∈ I (i + 1 + k.toNat)) ∧ (¬ IsJump x → st' ∈ I (i + 1))
theorem run_of {sch : List Bd} {cs : List Ins} {I : Nat → List (List Bd)} (h : ∀ (i : Nat) (x : Ins), cs[i]? = some x → I i ≠ [] → ∃ st st', (∀ s ∈ I i, SubS s st) ∧ AfterOk sch x st st' ∧ (∀ k, skipOf x = some k → 0 ≤ k ∧ st' ∈ I (i + 1 + k.toNat)) ∧ (¬ IsJump x → st' ∈ I (i + 1))) :
    ∀ (n i : Nat) (st : List Bd) (s r : List V), cs.length - i ≤ n → st ∈ I i → FitS st s → FitS sch r → ∃ q, Run cs i s r q ∧ FitS sch q
  | 0, i, st, s, r, hn, hm, hs, hr => ⟨r, .done (by omega), hr⟩
  | n + 1, i, st, s, r, hn, hm, hs, hr => by
    by_cases hi : cs.length ≤ i
    · exact ⟨r, .done hi, hr⟩
    · have hi' : i < cs.length := by omega
      have e : cs[i]? = some cs[i] := List.getElem?_eq_getElem hi'
      obtain ⟨m, st', hm', ha, hk, hj⟩ := h i cs[i] e (List.ne_nil_of_mem hm)
      obtain ⟨s', r', d, hst, f1, f2, hd⟩ := ha s r ((hm' st hm).fit hs) hr
      rcases hd with ⟨rfl, nj⟩ | hd
      · obtain ⟨q, hq, fq⟩ := run_of h n (i + 1) st' s' r' (by omega) (hj nj) f1 f2
        exact ⟨q, .step e hst (Int.le_refl 0) hq, fq⟩
      · obtain ⟨h0, hmem⟩ := hk d hd
        obtain ⟨q, hq, fq⟩ := run_of h n (i + 1 + d.toNat) st' s' r' (by omega) hmem f1 f2
        exact ⟨q, .step e hst h0 hq, fq⟩
theorem Accepted.run {sch : List Bd} {cs : List Ins} (a : Accepted sch cs) {r : List V} (hr : FitS sch r) : ∃ q, Run cs 0 [] r q ∧ FitS sch q := by
  obtain ⟨I, h0, h⟩ := a.ex
  exact run_of h cs.length 0 [] [] r (by omega) h0 .nil hr

/-! ### numbers -/
theorem mul_between {a b x y : Int} (h1 : a ≤ x) (h2 : x ≤ b) {m M : Int} (ha : m ≤ a * y) (hb : m ≤ b * y) (ga : a * y ≤ M) (gb : b * y ≤ M) : m ≤ x * y ∧ x * y ≤ M := by
  by_cases hy : 0 ≤ y
  · have e1 := Int.mul_le_mul_of_nonneg_right h1 hy
    have e2 := Int.mul_le_mul_of_nonneg_right h2 hy
    exact ⟨Int.le_trans ha e1, Int.le_trans e2 gb⟩
  · have hy' : y ≤ 0 := by omega
    have e1 := Int.mul_le_mul_of_nonpos_right h1 hy'
    have e2 := Int.mul_le_mul_of_nonpos_right h2 hy'
    exact ⟨Int.le_trans hb e2, Int.le_trans e1 ga⟩
theorem mul_box {a b c d x y m M : Int} (h1 : a ≤ x) (h2 : x ≤ b) (h3 : c ≤ y) (h4 : y ≤ d) (k : ∀ z ∈ [a * c, a * d, b * c, b * d], m ≤ z ∧ z ≤ M) : m ≤ x * y ∧ x * y ≤ M := by
  have k1 := k (a * c) (by simp)
  have k2 := k (a * d) (by simp)
  have k3 := k (b * c) (by simp)
  have k4 := k (b * d) (by simp)
  have ea : m ≤ a * y ∧ a * y ≤ M := by
    have q := mul_between (y := a) h3 h4 (m := m) (M := M) (by rw [Int.mul_comm]; exact k1.1) (by rw [Int.mul_comm]; exact k2.1) (by rw [Int.mul_comm]; exact k1.2) (by rw [Int.mul_comm]; exact k2.2)
    rw [Int.mul_comm]; exact q
  have eb : m ≤ b * y ∧ b * y ≤ M := by
    have q := mul_between (y := b) h3 h4 (m := m) (M := M) (by rw [Int.mul_comm]; exact k3.1) (by rw [Int.mul_comm]; exact k4.1) (by rw [Int.mul_comm]; exact k3.2) (by rw [Int.mul_comm]; exact k4.2)
    rw [Int.mul_comm]; exact q
  exact mul_between h1 h2 ea.1 eb.1 ea.2 eb.2
theorem fdiv_mono {a b n : Int} (h : a ≤ b) (hn : 1 ≤ n) : a.fdiv n ≤ b.fdiv n := by
  rw [Int.fdiv_eq_ediv_of_nonneg _ (by omega), Int.fdiv_eq_ediv_of_nonneg _ (by omega)]
  exact Int.ediv_le_ediv (by omega) h
theorem fmod_lo {a n : Int} (hn : 1 ≤ n) : 0 ≤ a.fmod n ∧ a.fmod n ≤ n - 1 := by
  rw [Int.fmod_eq_emod_of_nonneg _ (by omega)]
  have h1 := Int.emod_nonneg a (show n ≠ 0 by omega)
  have h2 := Int.emod_lt_of_pos a (show 0 < n by omega)
  omega
theorem fmod_self {a n : Int} (h0 : 0 ≤ a) (h1 : a < n) : a.fmod n = a := by
  rw [Int.fmod_eq_emod_of_nonneg _ (by omega)]
  exact Int.emod_eq_of_lt h0 h1
end Snk
set_option Elab.async false
set_option linter.all false
set_option maxRecDepth 100000
set_option maxHeartbeats 4000000
/-! # Part 3: how data lie in the heap -/
namespace Snk
open PySem PySem.Spec PyProof.Rows L2
def BdV (H : Hp) (v : V) : Bd → Prop
  | .int lo hi => ∃ a, v = .ref a ∧ H a = some (.tup [.str "int", .int lo, .int hi])
  | .flag => ∃ a, v = .ref a ∧ H a = some (.tup [.str "flag"])
  | .word ws => ∃ a b, v = .ref a ∧ H a = some (.tup [.str "word", .ref b]) ∧ H b = some (.tup (ws.map V.str))
  | .text n => ∃ a, v = .ref a ∧ H a = some (.tup [.str "text", .int n])
theorem BdV.gr {x : Addr → Prop} {H H' : Hp} {v : V} {b : Bd} (g : Gr x H H') (h : BdV H v b) : BdV H' v b := by
  cases b with
  | int lo hi => obtain ⟨a, e, q⟩ := h; exact ⟨a, e, g.tup _ _ q⟩
  | flag => obtain ⟨a, e, q⟩ := h; exact ⟨a, e, g.tup _ _ q⟩
  | word ws => obtain ⟨a, c, e, q, r⟩ := h; exact ⟨a, c, e, g.tup _ _ q, g.tup _ _ r⟩
  | text n => obtain ⟨a, e, q⟩ := h; exact ⟨a, e, g.tup _ _ q⟩
/-- its first item is its head -/
theorem BdV.hd {H : Hp} {v : V} {b : Bd} (h : BdV H v b) : ∃ a r, v = .ref a ∧ H a = some (.tup (.str b.head :: r)) := by
  cases b with
  | int lo hi => obtain ⟨a, e, q⟩ := h; exact ⟨a, _, e, q⟩
  | flag => obtain ⟨a, e, q⟩ := h; exact ⟨a, _, e, q⟩
  | word ws => obtain ⟨a, c, e, q, r⟩ := h; exact ⟨a, _, e, q⟩
  | text n => obtain ⟨a, e, q⟩ := h; exact ⟨a, _, e, q⟩
theorem Paired.gr {F : Hp → V → Bd → Prop} {x : Addr → Prop} {H H' : Hp} (g : Gr x H H') (m : ∀ v b, F H v b → F H' v b) : ∀ {xs : List V} {bs : List Bd}, Paired (F H) xs bs → Paired (F H') xs bs
  | _, _, .nil => .nil
  | _, _, .cons h t => .cons (m _ _ h) (Paired.gr g m t)
abbrev BdsV (H : Hp) (xs : List V) (bs : List Bd) : Prop := Paired (BdV H) xs bs
theorem BdsV.gr {x : Addr → Prop} {H H' : Hp} {xs : List V} {bs : List Bd} (g : Gr x H H') (h : BdsV H xs bs) : BdsV H' xs bs := Paired.gr g (fun _ _ q => q.gr g) h
def AllOk (bs : List Bd) : Prop := ∀ b ∈ bs, BdOk b
/-- a state of the judge: a tuple of bounds -/
def StV (H : Hp) (v : V) (st : List Bd) : Prop := ∃ a xs, v = .ref a ∧ H a = some (.tup xs) ∧ BdsV H xs st ∧ AllOk st
theorem StV.gr {x : Addr → Prop} {H H' : Hp} {v : V} {st : List Bd} (g : Gr x H H') (h : StV H v st) : StV H' v st := by
  obtain ⟨a, xs, e, q, r, k⟩ := h
  exact ⟨a, xs, e, g.tup _ _ q, r.gr g, k⟩
/-- a schema: fields (name, kind) -/
abbrev Sch := List (Str × Bd)
def FldV (H : Hp) (v : V) (f : Str × Bd) : Prop := ∃ a k, v = .ref a ∧ H a = some (.tup [.str f.1, k]) ∧ BdV H k f.2
theorem FldV.gr {x : Addr → Prop} {H H' : Hp} {v : V} {f : Str × Bd} (g : Gr x H H') (h : FldV H v f) : FldV H' v f := by
  obtain ⟨a, k, e, q, r⟩ := h
  exact ⟨a, k, e, g.tup _ _ q, r.gr g⟩
theorem flds_gr {x : Addr → Prop} {H H' : Hp} (g : Gr x H H') : ∀ {xs : List V} {fs : Sch}, Paired (FldV H) xs fs → Paired (FldV H') xs fs
  | _, _, .nil => .nil
  | _, _, .cons h t => .cons (h.gr g) (flds_gr g t)
def SchV (H : Hp) (v : V) (s : Sch) : Prop := ∃ a xs, v = .ref a ∧ H a = some (.tup xs) ∧ Paired (FldV H) xs s ∧ (∀ f ∈ s, KindOk f.2) ∧ 1 ≤ s.length ∧ s.length ≤ 8
theorem SchV.gr {x : Addr → Prop} {H H' : Hp} {v : V} {s : Sch} (g : Gr x H H') (h : SchV H v s) : SchV H' v s := by
  obtain ⟨a, xs, e, q, r, k⟩ := h
  exact ⟨a, xs, e, g.tup _ _ q, flds_gr g r, k⟩
def kinds (s : Sch) : List Bd := s.map (·.2)
theorem Paired.get {α β : Type} {F : α → β → Prop} : ∀ {xs : List α} {ys : List β} {i : Nat} {y : β}, Paired F xs ys → ys[i]? = some y → ∃ x, xs[i]? = some x ∧ F x y
  | _, _, _, _, .nil, e => by simp at e
  | _, _, 0, _, .cons r _, e => by simp at e; subst e; exact ⟨_, rfl, r⟩
  | _, _, i + 1, y, .cons _ t, e => by
    obtain ⟨u, h1, h2⟩ := Paired.get (i := i) (y := y) t (by simpa using e)
    exact ⟨u, by simpa using h1, h2⟩
theorem Paired.getL {α β : Type} {F : α → β → Prop} : ∀ {xs : List α} {ys : List β} {i : Nat} {x : α}, Paired F xs ys → xs[i]? = some x → ∃ y, ys[i]? = some y ∧ F x y
  | _, _, _, _, .nil, e => by simp at e
  | _, _, 0, _, .cons r _, e => by simp at e; subst e; exact ⟨_, rfl, r⟩
  | _, _, i + 1, y, .cons _ t, e => by
    obtain ⟨u, h1, h2⟩ := Paired.getL (i := i) (x := y) t (by simpa using e)
    exact ⟨u, by simpa using h1, h2⟩
theorem Paired.app {α β : Type} {F : α → β → Prop} : ∀ {xs zs : List α} {ys ws : List β}, Paired F xs ys → Paired F zs ws → Paired F (xs ++ zs) (ys ++ ws)
  | _, _, _, _, .nil, s => s
  | _, _, _, _, .cons r t, s => .cons r (Paired.app t s)
theorem Paired.take {α β : Type} {F : α → β → Prop} : ∀ {xs : List α} {ys : List β} (n : Nat), Paired F xs ys → Paired F (xs.take n) (ys.take n)
  | _, _, 0, _ => .nil
  | _, _, _ + 1, .nil => .nil
  | _, _, n + 1, .cons r t => .cons r (Paired.take n t)
theorem Paired.drop {α β : Type} {F : α → β → Prop} : ∀ {xs : List α} {ys : List β} (n : Nat), Paired F xs ys → Paired F (xs.drop n) (ys.drop n)
  | _, _, 0, r => r
  | _, _, _ + 1, .nil => .nil
  | _, _, n + 1, .cons _ t => Paired.drop n t
theorem Paired.imp {α β : Type} {F G : α → β → Prop} (h : ∀ a b, F a b → G a b) : ∀ {xs : List α} {ys : List β}, Paired F xs ys → Paired G xs ys
  | _, _, .nil => .nil
  | _, _, .cons r t => .cons (h _ _ r) (Paired.imp h t)
/-! ### conditions -/
theorem if_dec {p A B : Prop} [Decidable p] (h1 : p → A) (h2 : ¬ p → B) : if decide p = true then A else B := by
  by_cases h : p
  · rw [decide_eq_true h]; exact if_tt (h1 h)
  · rw [decide_eq_false h]; exact if_ff (h2 h)
theorem if_ndec {p A B : Prop} [Decidable p] (h1 : ¬ p → A) (h2 : p → B) : if (!decide p) = true then A else B := by
  by_cases h : p
  · rw [decide_eq_true h]; exact if_nt (h2 h)
  · rw [decide_eq_false h]; exact if_nf (h1 h)
/-- a text against a text -/
theorem if_s {a b : Str} {A B : Prop} (h1 : a = b → A) (h2 : ¬ a = b → B) : if decide (V.str a = V.str b) = true then A else B :=
  if_dec (fun e => h1 (by cases e; rfl)) (fun e => h2 (fun z => e (by rw [z])))
theorem if_sn {a b : Str} {A B : Prop} (h1 : ¬ a = b → A) (h2 : a = b → B) : if (!decide (V.str a = V.str b)) = true then A else B :=
  if_ndec (fun e => h1 (fun z => e (by rw [z]))) (fun e => h2 (by cases e; rfl))
theorem if_b {k : Bool} {A B : Prop} (h1 : k = true → A) (h2 : k = false → B) : if k = true then A else B := by
  cases k with
  | true => exact if_tt (h1 rfl)
  | false => exact if_ff (h2 rfl)
theorem if_nb {k : Bool} {A B : Prop} (h1 : k = false → A) (h2 : k = true → B) : if (!k) = true then A else B := by
  cases k with
  | true => exact if_nt (h2 rfl)
  | false => exact if_nf (h1 rfl)
theorem if_i {a b : Int} {A B : Prop} (h1 : a = b → A) (h2 : ¬ a = b → B) : if decide (V.int a = V.int b) = true then A else B :=
  if_dec (fun e => h1 (by cases e; rfl)) (fun e => h2 (fun z => e (by rw [z])))
theorem if_bf {k : Bool} {A B : Prop} (h1 : k = true → A) (h2 : k = false → B) : if decide (k = true) = true then A else B := by
  cases k with
  | true => exact if_tt (h1 rfl)
  | false => exact if_ff (h2 rfl)
/-- membership in a written tuple of texts -/
theorem inV_str {s : Str} : ∀ {l : List Str}, inV (.str s) (l.map V.str) = decide (s ∈ l)
  | [] => by simp [inV]
  | a :: l => by
    have ih := inV_str (s := s) (l := l)
    unfold inV at ih ⊢
    rw [List.map_cons, List.any_cons, ih]
    have e : eqV (V.str a) (V.str s) = decide (a = s) := by
      first
        | rfl
        | (unfold eqV; by_cases h : a = s <;> simp [h])
    rw [e]
    by_cases h : a = s
    · subst h; simp
    · have h' : ¬ s = a := fun z => h z.symm
      simp [h, h']
theorem flat_strs : ∀ {l : List Str}, (l.map V.str).all flatV = true
  | [] => rfl
  | a :: l => by
    rw [List.map_cons, List.all_cons, flat_strs (l := l)]
    rfl
end Snk
set_option Elab.async false
set_option linter.all false
set_option maxRecDepth 100000
set_option maxHeartbeats 4000000
namespace Snk
open PySem PySem.Spec PyProof.Rows L2
local macro_rules | `(tactic| walk_at "K") => `(tactic| try simp only [ws_K, ws_P, ws_w, cx_K, cx_P, cx_w])
local macro_rules | `(tactic| walk_at "isi") => `(tactic| first
  | with_reducible refine r_isB (.base (.int _)) kk_int_int ?_ | with_reducible refine r_isB (.base (.int _)) kk_int_bool ?_ | with_reducible refine r_isB (.base (.int _)) kk_int_str ?_ | with_reducible refine r_isB (.base (.int _)) kk_int_tuple ?_ | with_reducible refine r_isB (.base (.bl _)) kk_bool_int ?_ | with_reducible refine r_isB (.base (.bl _)) kk_bool_bool ?_ | with_reducible refine r_isB (.base (.bl _)) kk_bool_str ?_ | with_reducible refine r_isB (.base (.bl _)) kk_bool_tuple ?_ | with_reducible refine r_isB (.base (.str _)) kk_str_int ?_ | with_reducible refine r_isB (.base (.str _)) kk_str_bool ?_ | with_reducible refine r_isB (.base (.str _)) kk_str_str ?_ | with_reducible refine r_isB (.base (.str _)) kk_str_tuple ?_ | with_reducible refine r_isB (.base .non) kk_NoneType_int ?_ | with_reducible refine r_isB (.base .non) kk_NoneType_bool ?_ | with_reducible refine r_isB (.base .non) kk_NoneType_str ?_ | with_reducible refine r_isB (.base .non) kk_NoneType_tuple ?_ | with_reducible refine r_isB (.base (.tup (by assumption))) kk_tuple_int ?_ | with_reducible refine r_isB (.base (.tup (by assumption))) kk_tuple_bool ?_ | with_reducible refine r_isB (.base (.tup (by assumption))) kk_tuple_str ?_ | with_reducible refine r_isB (.base (.tup (by assumption))) kk_tuple_tuple ?_)
local macro_rules | `(tactic| tb_rel) => `(tactic| first | assumption | exact upd_same | ((refine look_old ?hl ?hn); (case hn => assumption); (case hl => tb_rel)) | ((refine Gr.tup (by assumption) _ _ ?hl); (case hl => tb_rel)))
local macro_rules | `(tactic| tb_start) => `(tactic| first
  | ((with_reducible refine' r_var ?hvar ?_); (case hvar => exact rfl))
  | with_reducible refine r_c ?_ | with_reducible refine r_op ?_ | with_reducible refine r_un ?_ | with_reducible refine r_chain ?_ | with_reducible refine r_tup ?_ | with_reducible refine r_lst ?_ | with_reducible refine r_cons ?_ | with_reducible refine r_nil ?_ | with_reducible refine r_cb ?_ | with_reducible refine r_call ?_ | with_reducible refine r_bm ?_ | with_reducible refine r_bm0 ?_ | with_reducible refine r_sl ?_ | with_reducible refine r_test ?_ | with_reducible refine r_tb ?_ | with_reducible refine r_tand ?_ | with_reducible refine r_tor ?_ | with_reducible refine r_tnot ?_ | with_reducible refine r_andV ?_ | with_reducible refine r_orV ?_ | with_reducible refine r_notV ?_ | with_reducible refine r_ife ?_ | with_reducible refine s_seq ?_ | with_reducible refine s_nextM ?_ | with_reducible refine s_next ?_ | with_reducible refine s_ret ?_ | with_reducible refine s_if ?_ | with_reducible refine s_asg ?_ | with_reducible refine s_drop ?_ | with_reducible refine s_cont ?_ | with_reducible refine s_break ?_ | with_reducible refine g_name ?_ | with_reducible refine r_I0 ?_ | with_reducible refine r_U ?_ | with_reducible refine k_bl2 ?_ | with_reducible refine r_part ?_ | with_reducible refine r_nopart ?_ | with_reducible refine if_tt ?_ | with_reducible refine if_ff ?_ | with_reducible refine if_nf ?_ | with_reducible refine if_nt ?_
  | ((with_reducible refine' r_eq ?hsc ?_); (case hsc => exact rfl)) | ((with_reducible refine' r_ne ?hsc ?_); (case hsc => exact rfl)) | ((with_reducible refine isi_g ?_); walk_at "isi") | (first | ((with_reducible refine' r_ixT ?hix ?eix ?_); (case hix => tb_rel); (case eix => first | exact at0 | exact at1 | exact at2 | rfl))) | ((with_reducible refine' if_t ?hc ?_); (case hc => decide +kernel)) | ((with_reducible refine' if_f ?hc ?_); (case hc => decide +kernel)))
local macro_rules | `(tactic| walk_at "go") => `(tactic| repeat tb_start)
local macro_rules | `(tactic| walk_at "gr") => `(tactic| first | exact Gr.refl _ _ | assumption | ((refine Gr.trans ?ga (Gr.new ?gn)); (case gn => assumption); (case ga => walk_at "gr")) | ((refine' Gr.trans ?ga ?gb); (case gb => assumption); (case ga => walk_at "gr")))
local macro_rules | `(tactic| walk_at "go2") => `(tactic| repeat (first | tb_start | (((with_reducible refine' And.intro ?hz ?_); (case hz => (refine sz10 ?_; first | decide | (simp; done) | (simp; omega))); intro p hp)) | (first | ((with_reducible refine' r_inT ?hs ?hf ?ha ?_); (case hs => first | assumption | exact SqT.of (by tb_rel)); (case hf => rfl); (case ha => first | rfl | decide +kernel | exact flat_strs)) | ((with_reducible refine' r_niT ?hs ?hf ?ha ?_); (case hs => first | assumption | exact SqT.of (by tb_rel)); (case hf => rfl); (case ha => first | rfl | decide +kernel | exact flat_strs)))))
section
variable {P : Program} {w : World} {K : PySem.W.Frag} {mg : Str → Option Value} {base : Heap}
/-! ### is_integer -/
def isI : V → Int → Int → Bool
  | .int i, lo, hi => decide (lo ≤ i) && decide (i ≤ hi)
  | _, _, _ => false
/-- a flat value of the law's instructions -/
def Fl : V → Prop
  | .int _ => True
  | .bl _ => True
  | .str _ => True
  | .non => True
  | _ => False
def spIsI : Sp := fun vs H Q _ => ∃ (v : V) (lo hi : Int), vs = [v, .int lo, .int hi] ∧ Fl v ∧ Q (.bl (isI v lo hi)) H
abbrev nm_is_integer : List Str := ["value", "least", "greatest"]
theorem sc_is_integer : FnScope nm_is_integer ["value", "least", "greatest"] (defScope (topS 7)) := ⟨rfl, rfl, rfl, by decide +kernel, rfl, by decide +kernel, by decide +kernel⟩
-- slots: 0:value 1:least 2:greatest
theorem c_is_integer (D : DefAt K mg "is_integer" 7 ["value", "least", "greatest"]) (B : Blt mg) : Cal P w K mg base CX0 1 "is_integer" ["value", "least", "greatest"] spIsI := by
  refine mk0 D sc_is_integer (fun vs H Q E h => by obtain ⟨v, lo, hi, rfl, _⟩ := h; rfl) ?_
  rintro X Q vs H E ⟨f, cdv, A, outer, s, H0, rfl⟩ hr ⟨v, lo, hi, rfl, fl, q⟩
  refine ⟨_, (pss_one (ps_ret (pe_and (pe_callB call_isi rfl B.isinstance_ (by decide +kernel) (pa_cons (pv 0) (pa_cons (pe_bltn (v := .ty "int") rfl B.int_ (by decide +kernel) rfl) pa_nil))) (pe_and (pe_not (pe_callB call_isi rfl B.isinstance_ (by decide +kernel) (pa_cons (pv 0) (pa_cons (pe_bltn (v := .ty "bool") rfl B.bool_ (by decide +kernel) rfl) pa_nil)))) (pe_one (pe_chain op_le op_le (pv 1) (pv 0) (pv 2))))))), ?_⟩
  walk_at "K"
  walk_at "go"
  cases v with
  | int i =>
    walk_at "go"
    simp only [isI] at q
    by_cases c : lo ≤ i
    · rw [decide_eq_true c, Bool.true_and] at q
      refine if_t (decide_eq_true c) ?_
      walk_at "go"
      exact q
    · rw [decide_eq_false c, Bool.false_and] at q
      refine if_f (decide_eq_false c) ?_
      exact q
  | bl b =>
    walk_at "go"
    exact q
  | str x =>
    walk_at "go"
    exact q
  | non =>
    walk_at "go"
    exact q
  | _ => exact fl.elim
/-! ### needed -/
abbrev nm_needed : List Str := ["head"]
theorem sc_needed : FnScope nm_needed ["head"] (defScope (topS 35)) := ⟨rfl, rfl, rfl, by decide +kernel, rfl, by decide +kernel, by decide +kernel⟩
-- slots: 0:head
def PAIRSV : List V := [.str "add", .str "sub", .str "mul", .str "min", .str "max", .str "less", .str "same", .str "and", .str "or", .str "join"]
def needN (h : Str) : Int := if inV (.str h) PAIRSV = true then 2 else if h = "pick" then 3 else if inV (.str h) [.str "push", .str "word", .str "load", .str "jump"] = true then 0 else 1
def spNeeded : Sp := fun vs H Q _ => ∃ (h : Str), vs = [.str h] ∧ ∀ H', Gr no H H' → Q (.int (needN h)) H'
theorem c_needed (D : DefAt K mg "needed" 35 ["head"]) (B : Blt mg) {aP : Addr} (gPAIRS : mg "PAIRS" = some (.ref aP)) (hP : ∀ H, SqT K H aP PAIRSV) : Cal P w K mg base CX0 1 "needed" ["head"] spNeeded := by
  refine mk0 D sc_needed (fun vs H Q E h => by obtain ⟨v, rfl, _⟩ := h; rfl) ?_
  rintro X Q vs H E ⟨f, cdv, A, outer, s, H0, rfl⟩ hr ⟨h, rfl, q⟩
  refine ⟨_, (pss_cons (ps_if (pt_cmpR op_in_seq (pv 0) (pe_glob (v := .ref aP) rfl gPAIRS rfl) (by rfl)) (pss_one (ps_ret pe_int)) pss_nil)
      (pss_cons (ps_if (pt_cmpR op_eq (pv 0) pe_str (nomark _)) (pss_one (ps_ret pe_int)) pss_nil)
      (pss_cons (ps_if (pt_cmpR op_in_seq (pv 0) (pe_tup (pa_cons pe_str (pa_cons pe_str (pa_cons pe_str (pa_cons pe_str pa_nil))))) (by rfl)) (pss_one (ps_ret pe_int)) pss_nil)
      (pss_one (ps_ret pe_int))))), ?_⟩
  walk_at "K"
  walk_at "go"
  refine r_inT (hP H) rfl (by decide +kernel) ?_
  walk_at "go"
  unfold needN at q
  refine ite2 (fun c => ?_) (fun c => ?_)
  · walk_at "go"
    rw [if_pos c] at q
    exact q H (Gr.refl _ _)
  · rw [if_neg c] at q
    walk_at "go"
    refine if_s (fun e => ?_) (fun e => ?_)
    · rw [if_pos e] at q
      walk_at "go"
      exact q H (Gr.refl _ _)
    · rw [if_neg e] at q
      walk_at "go"
      refine ⟨sz10 (by simp), fun p hp => ?_⟩
      refine r_inT (SqT.of upd_same) rfl (by decide +kernel) ?_
      walk_at "go"
      refine ite2 (fun c2 => ?_) (fun c2 => ?_)
      · rw [if_pos c2] at q
        walk_at "go"
        exact q _ (Gr.new hp)
      · rw [if_neg c2] at q
        walk_at "go"
        exact q _ (Gr.new hp)
end
end Snk
set_option Elab.async false
set_option linter.all false
set_option maxRecDepth 100000
set_option maxHeartbeats 4000000
/-! # Part X: sets of texts, sorted -/
namespace Snk
open PySem PySem.Spec PyProof.Rows L2
def keyS (e : Int × Value) : Str := match e.2 with | .str x _ => x | _ => Str.empty
def GoodS (w : World) (e : Int × Value) : Prop := ∃ (x : Str) (tk : Tok), e.2 = Value.str x tk ∧ e.1 = hashStr w x
/-- the set of texts at a, of members S, n of them -/
def TxR (w : World) (h : Heap) (a : Addr) (S : Str → Bool) (n : Nat) : Prop :=
  ∃ o es ep t, h.get? a = some o ∧ o.ExactSet ∧ o.data = .set es ep t ∧ (∀ e ∈ es.toList, GoodS w e) ∧ (es.toList.map keyS).Nodup ∧ (∀ k, S k = true ↔ k ∈ es.toList.map keyS) ∧
    es.size < scanBound ∧ t.fits es.size = true ∧ es.size = n ∧ Ris t.place.toList ∧ (w.params.followText "set-order" = true ∨ t.led = true)
section
variable {P : Program} {w : World} {h h' : Heap} {a : Addr} {S : Str → Bool} {n : Nat}
theorem TxR.at (R : TxR w h a S n) (k : ∀ o, h.get? a = some o → h'.get? a = some o) : TxR w h' a S n := by
  obtain ⟨o, es, ep, t, ho, r⟩ := R
  exact ⟨o, es, ep, t, k o ho, r⟩
theorem TxR.congr {S' : Str → Bool} (R : TxR w h a S n) (e : ∀ k, S' k = S k) : TxR w h a S' n := by
  have q : S' = S := funext e
  rw [q]; exact R
theorem goodS_elems {l : List (Int × Value)} (g : ∀ e ∈ l, GoodS w e) : ElemsOf (PySem.strKind P w) l := fun e he => by
  obtain ⟨k, tk, h1, h2⟩ := g e he
  exact ⟨⟨k, by rw [h1]; exact strKind_is P w k tk, h2⟩, by rw [h1] <;> rfl⟩
theorem goodS_is {e : Int × Value} (g : GoodS w e) (k : Str) : (PySem.strKind P w).is k e.2 = true ↔ keyS e = k := by
  obtain ⟨k0, tk, h1, _⟩ := g
  unfold keyS
  rw [h1]
  show ((k0 == k) = true) ↔ k0 = k
  exact beq_iff_eq
theorem goodS_mem {l : List (Int × Value)} (g : ∀ e ∈ l, GoodS w e) (k : Str) : k ∈ l.map keyS ↔ ∃ e ∈ l, (PySem.strKind P w).is k e.2 = true := by
  rw [List.mem_map]
  constructor
  · rintro ⟨e, he, q⟩
    exact ⟨e, he, (goodS_is (g e he) k).2 q⟩
  · rintro ⟨e, he, q⟩
    exact ⟨e, he, (goodS_is (g e he) k).1 q⟩
end
section
variable {P : Program} {w : World} {A : Around} {E : Value → Shared → Prop} {s : Shared} {a : Addr} {S : Str → Bool} {n : Nat}
theorem txR_tail {g : Bool → Sem Unit} (hg : ∀ (b : Bool) (s₁ : Shared) (Q' : Unit → Shared → Prop), Q' () s₁ → wpAny (model P w) A (g b) Q' E s₁)
    {o : Obj} {es : Array (Int × Value)} {ep : Nat} {t : SetTable} (ho : s.heap.get? a = some o) (hex : o.ExactSet) (hd : o.data = .set es ep t)
    {es1 : Array (Int × Value)} {t2 : SetTable} {S' : Str → Bool} (g1 : ∀ e ∈ es1.toList, GoodS w e) (nd1 : (es1.toList.map keyS).Nodup) (m1 : ∀ k, S' k = true ↔ k ∈ es1.toList.map keyS)
    (hb1 : es1.size < scanBound) (hf2 : t2.fits es1.size = true) (hr : Ris t2.place.toList) (hl : w.params.followText "set-order" = true ∨ t2.led = true) {wasDummy : Bool} {R : Option Bool → Shared → Prop}
    (hR : ∀ h', Heap.SameBut a s.heap h' → TxR w h' a S' es1.size → R (some true) { s with heap := h' }) :
    wpAny (model P w) A (do
        storeSet a es1 t2
        if (!wasDummy && t2.tooFull) = true then do
            g (relayAll t2 es1 (SetTable.grown es1.size)).2.2
            storeSet a (relayAll t2 es1 (SetTable.grown es1.size)).1 (relayAll t2 es1 (SetTable.grown es1.size)).2.1
            pure (some true)
          else pure (some true)) R E s := by
  refine wpAny_bind (wpAny_storeSet_of ho hd ?_ (fits_of_scanBound hb1))
  have ho1 := store_at (es' := es1) (t' := t2) ho hd
  have sb1 := Heap.SameBut.update s.heap a (Obj.putSet es1 t2)
  split
  · have pm := relayAll_perm t2 es1 (SetTable.grown es1.size)
    have hf3 := relayAll_fits t2 es1 (SetTable.grown es1.size)
    have hr3 := relayAll_ris t2 es1 (SetTable.grown es1.size)
    have hl3 := relayAll_led t2 es1 (SetTable.grown es1.size)
    generalize relayAll t2 es1 (SetTable.grown es1.size) = Z at pm hf3 hr3 hl3 ⊢
    obtain ⟨es2, t3, gave⟩ := Z
    dsimp only at pm hf3 hr3 hl3 ⊢
    have hsz : es2.size = es1.size := by rw [← Array.length_toList, pm.length_eq, Array.length_toList]
    have hb2 : es2.size < scanBound := by rw [hsz]; exact hb1
    refine wpAny_bind (hg _ _ _ ?_)
    refine wpAny_bind (wpAny_storeSet_of ho1 rfl ?_ (fits_of_scanBound hb2))
    have ho2 := store_at (es' := es2) (t' := t3) ho1 rfl
    refine wpAny_pure (hR _ (sb1.trans (Heap.SameBut.update _ a _)) ?_)
    exact ⟨_, es2, _, t3, ho2, hex, rfl, fun e he => g1 e (pm.mem_iff.mp he), (pm.map keyS).nodup_iff.mpr nd1, fun k => (m1 k).trans (pm.map keyS).mem_iff.symm, hb2, hf3, hsz, hr3,
      hl.imp id fun z => by rw [hl3]; exact z⟩
  · exact wpAny_pure (hR _ sb1 ⟨_, es1, _, t2, ho1, hex, rfl, g1, nd1, m1, hb1, hf2, rfl, hr, hl⟩)
theorem txR_add {k : Str} {tk : Tok} {Q : Bool → Shared → Prop} (R : TxR w s.heap a S n) (room : n + 1 < scanBound)
    (hQ : ∀ h', Heap.SameBut a s.heap h' → TxR w h' a (fun j => S j || decide (j = k)) (if S k = true then n else n + 1) → Q (!S k) { s with heap := h' }) :
    wpAny (model P w) A (setAddHashed a (.str k tk) ((PySem.strKind P w).hash k)) Q E s := by
  obtain ⟨o, es, ep, t, ho, hex, hd, g, nd, hm, hb, hf, hn, hr, hl⟩ := R
  have hkey : (PySem.strKind P w).is k (.str k tk) = true := strKind_is P w k tk
  have hsc : (Value.str k tk).scannable = true := rfl
  have hel : ElemsOf (PySem.strKind P w) es.toList := goodS_elems g
  unfold setAddHashed setAddHashedIn
  refine wpAny_holding (wpAny_bind (wpAny_setState_of ho hd hf ?_))
  dsimp only
  rw [byScan_of hsc hb hel]
  simp only [↓reduceIte]
  unfold setAddByScan
  refine wpAny_bind ?_
  refine wpAny_bind (wpAny_rule ?_)
  refine wpAny_bind (wpAny_setScan_of hkey ho hd hf hel ?_)
  cases hfi : List.findIdx? (fun e => (PySem.strKind P w).is k e.2) es.toList with
  | some j =>
    dsimp only
    obtain ⟨hj, pj, _⟩ := List.findIdx?_eq_some_iff_getElem.mp hfi
    have hSk : S k = true := (hm k).2 ((goodS_mem (P := P) (w := w) g k).2 ⟨es.toList[j], List.getElem_mem hj, pj⟩)
    refine wpAny_pure (wpAny_pure ?_)
    have q := hQ s.heap (Heap.SameBut.refl a s.heap) ⟨o, es, ep, t, ho, hex, hd, g, nd, fun i => by
      rw [Bool.or_eq_true, decide_eq_true_eq, ← hm i]
      exact ⟨fun z => z.elim id (fun e => e ▸ hSk), .inl⟩, hb, hf, by rw [if_pos hSk]; exact hn, hr, hl⟩
    rw [hSk] at q
    exact q
  | none =>
    dsimp only
    have hnk : k ∉ es.toList.map keyS := fun z => by
      obtain ⟨e, he, q⟩ := (goodS_mem (P := P) (w := w) g k).1 z
      have c := List.findIdx?_eq_none_iff.mp hfi e he
      rw [q] at c
      cases c
    have hSk : S k = false := by
      cases q : S k with
      | false => rfl
      | true => exact absurd ((hm k).1 q) hnk
    have hgw : ∀ (b : Bool) {s₁ : Shared} {Q' : Unit → Shared → Prop}, Q' () s₁ → wpAny (model P w) A (match b with | true => rule "set.scan.the-table-gave-way" | false => pure ()) Q' E s₁ :=
      fun b s₁ Q' q => by cases b <;> first | exact wpAny_pure q | exact wpAny_rule q
    have pm := layNew_perm t es ((PySem.strKind P w).hash k) (.str k tk)
    have hf1 := layNew_fits t es ((PySem.strKind P w).hash k) (.str k tk)
    have hr1 := layNew_ris t es ((PySem.strKind P w).hash k) (.str k tk) hr
    have hl1 := layNew_led t es ((PySem.strKind P w).hash k) (.str k tk)
    generalize layNew t es ((PySem.strKind P w).hash k) (.str k tk) = Z at pm hf1 hr1 hl1 ⊢
    obtain ⟨es1, t1, wasDummy, gave⟩ := Z
    dsimp only at pm hf1 hr1 hl1 ⊢
    rw [Array.toList_push] at pm
    have pc : es1.toList.Perm (((PySem.strKind P w).hash k, Value.str k tk) :: es.toList) := pm.trans (List.perm_append_singleton _ _)
    have pk : (es1.toList.map keyS).Perm (k :: es.toList.map keyS) := pc.map keyS
    have g1 : ∀ e ∈ es1.toList, GoodS w e := fun e he => by
      rcases List.mem_cons.mp (pc.mem_iff.mp he) with z | z
      · rw [z]; exact ⟨k, tk, rfl, rfl⟩
      · exact g e z
    have nd1 : (es1.toList.map keyS).Nodup := pk.nodup_iff.mpr (List.nodup_cons.mpr ⟨hnk, nd⟩)
    have m1 : ∀ i, (S i || decide (i = k)) = true ↔ i ∈ es1.toList.map keyS := fun i => by
      rw [Bool.or_eq_true, decide_eq_true_eq, hm i, pk.mem_iff, List.mem_cons]
      exact Or.comm
    have hsz : es1.size = n + 1 := by rw [← Array.length_toList, pc.length_eq, List.length_cons, Array.length_toList, hn]
    have hb1 : es1.size < scanBound := by rw [hsz]; exact room
    have hled : w.params.followText "set-order" = true ∨ t1.led = true := hl.imp id fun z => by rw [hl1]; exact z
    have fin : ∀ h', Heap.SameBut a s.heap h' → TxR w h' a (fun j => S j || decide (j = k)) es1.size → Q true { s with heap := h' } := fun h' sb r => by
      have q := hQ h' sb
      rw [hSk] at q
      rw [hsz] at r
      exact q r
    refine wpAny_bind (hgw _ ?_)
    split
    · refine wpAny_bind ?_
      rw [hashByValue_scannable 8 hsc]
      refine wpAny_pure ?_
      refine txR_tail ?_ ho hex hd g1 nd1 m1 hb1 ?_ ?_ ?_ ?_
      · intro b s₁ Q' q; cases b <;> first | exact wpAny_pure q | exact wpAny_rule q
      · first | (split <;> first | exact hf1 | exact SetTable.fits_plain_off hf1) | exact hf1
      · first | (split <;> exact hr1) | exact hr1
      · first | (split <;> exact hled) | exact hled
      · intro h' sb r; dsimp only; exact wpAny_pure (fin h' sb r)
    · refine wpAny_bind (wpAny_pure ?_)
      simp only [↓reduceIte]
      refine txR_tail ?_ ho hex hd g1 nd1 m1 hb1 hf1 hr1 hled ?_
      · intro b s₁ Q' q; cases b <;> first | exact wpAny_pure q | exact wpAny_rule q
      · intro h' sb r; dsimp only; exact wpAny_pure (fin h' sb r)
end
/-- a set of texts: its members are those of ss -/
def SetSO (w : World) (a : Addr) (ss : List Str) : HO := .ext fun h => ∃ n, n ≤ ss.length ∧ TxR w h a (fun k => decide (k ∈ ss)) n
section
variable {X : Cx}
theorem strs_of_good {w : World} : ∀ (l : List Value), (∀ v ∈ l, ∃ (x : Str) (tk : Tok), v = Value.str x tk) → ∃ ss, StrsAre l ss
  | [], _ => ⟨[], .nil⟩
  | v :: l, h => by
    obtain ⟨x, tk, rfl⟩ := h v List.mem_cons_self
    obtain ⟨ss, r⟩ := strs_of_good (w := w) l fun u hu => h u (List.mem_cons_of_mem _ hu)
    exact ⟨x :: ss, .cons x tk r⟩
def keyV (v : Value) : Str := match v with | .str x _ => x | _ => Str.empty
theorem StrsAre.keys : ∀ {l : List Value} {ss : List Str}, StrsAre l ss → ss = l.map keyV
  | _, _, .nil => rfl
  | _, _, .cons y t r => by show y :: _ = y :: _; rw [StrsAre.keys r]
def rSortSet (w : World) : List V → Hp → VK → Prop := fun xs H Q => ∃ (a : Addr) (ss : List Str), xs = [.ref a] ∧ H a = some (SetSO w a ss) ∧ ss.length < 64 ∧ ∀ (ys : List Str) (p : Addr), ys.Nodup → (∀ s, s ∈ ys ↔ s ∈ ss) → H p = none → Q (.ref p) (upd H p (.lst (ys.map V.str)))
theorem call_sortedSet (hc : X.calm = true) : CallR X (.builtin "sorted") (rSortSet X.w) := by
  intro pins s σ H vs us Q I r h
  obtain ⟨a, ss, rfl, ha, h64, q⟩ := h
  obtain ⟨n, hn64, R⟩ := (I.hok a _ ha).1
  rw [Vals.ref1 r]
  obtain ⟨o, es, ep, t, ho, hex, hd, g, nd, hm, hb, hf, hn, hr, hl⟩ := R
  refine Calls.call_function_entry PyProof.Rows.kind_sorted PyProof.Rows.plain_sorted PyProof.Rows.entry_sorted (PyProof.Rows.args_sorted1 _) ?_
  unfold Builtin.«sorted»
  refine wpAny_bind (m := checkCount "sorted" 1 1 _) (wpAny_pure ?_)
  refine wpAny_bind (collect_set (A := X.A.in1) (I.ok.hd hc) ⟨o, ho, hex.1, hd⟩ hf hb hr hl fun s1 out k1 hz g1 o1 pm => ?_)
  have hvl : out.length = n := by rw [pm.length_eq, List.length_map, Array.length_toList]; exact hn
  obtain ⟨ks, hS⟩ := strs_of_good (w := X.w) out fun v hv => by
    obtain ⟨e, he, q⟩ := List.mem_map.mp (pm.mem_iff.mp hv)
    obtain ⟨k, tk, h1, _⟩ := g e he
    exact ⟨k, tk, by rw [← q]; exact h1⟩
  have pk : ks.Perm (es.toList.map keyS) := by
    have q := pm.map keyV
    rw [List.map_map, ← StrsAre.keys hS] at q
    exact q
  refine wpAny_bind (wpAny_newList ?_ (by rw [hvl, sizeLine_eq]; omega))
  have hoL : (s1.heap.push (seqObj "list" out.toArray 0)).get? s1.heap.objs.size = some (seqObj "list" out.toArray 0) := Heap.get?_push_size _ rfl
  refine wpAny_bind (wpAny_holding (wpAny_call_entry PyProof.Rows.slot_list_sort ⟨_, hoL, rfl⟩ PyProof.Rows.entry_list_sort
    (list_sort_treeK strKind_oneLt hoL hS.keysOf (fun v₁ v₂ rest e => keyKind_strs (by rw [← e]; exact hS)) (by rw [hvl]; omega) fun st' hp hs => ⟨_, rfl, ?_⟩)
    (PyProof.Rows.args_list_sort _)))
  obtain ⟨ys, g2, g3, g4⟩ := sorted_out_str hS hp hs
  obtain ⟨e', he'⟩ := PyProof.Rows.sortedHeap_at (vs := out) (out := (arrOf st').map (·.2)) hoL
  have pn : ys.Perm (es.toList.map keyS) := g3.trans pk
  have kp : ∀ b u, s.heap.get? b = some u → (sortedHeap (s1.heap.push (seqObj "list" out.toArray 0)) s1.heap.objs.size out ((arrOf st').map (·.2))).get? b = some u := fun b u e => by
    have q := k1 b u e
    have hlt := Heap.lt_size q
    rw [sortedHeap_old (Nat.ne_of_lt hlt) (by rw [size_push']; exact Nat.lt_succ_of_lt hlt)]
    exact Heap.get?_push_of_some _ q
  have hlen : (ys.map V.str).length ≤ sizeLine := by rw [List.length_map, pn.length_eq, List.length_map, Array.length_toList, hn, sizeLine_eq]; omega
  have hfr : H s1.heap.objs.size = none := I.hok.fresh hz
  refine wpAny_pure ⟨_, rfl, .ref _, upd H s1.heap.objs.size (.lst (ys.map V.str)), ?_, rfl, q ys _ (pn.nodup_iff.mpr nd) (fun k => by rw [pn.mem_iff, ← hm k]; exact decide_eq_true_iff) hfr⟩
  have J : Inv X pins σ (upd H s1.heap.objs.size (.lst (ys.map V.str))) { s with heap := sortedHeap (s1.heap.push (seqObj "list" out.toArray 0)) s1.heap.objs.size out ((arrOf st').map (·.2)), gens := s1.gens, drawn := s1.drawn, toks := s1.toks } :=
    I.call (ch := []) (Un.laid kp hz hfr) (I.hok.laid kp hz ⟨hlen, ((arrOf st').map (·.2)).toList, e', vals_of_strs g2, he'⟩) (by rw [g1]; exact I.bare) (fun _ z => nomatch z)
  cases s1
  cases s
  cases o1
  exact J
end
section
variable {P : Program} {w : World} {A : Around} {E : Value → Shared → Prop} {s : Shared}
theorem txR_new {h : Heap} {a : Addr} {ss : List Str} (ho : h.get? a = some { cls := .type "set", dict := none, data := .set #[] 0 (.fresh 0 0 (!w.params.followText "set-order")) }) : TxR w h a (fun j => decide (j ∈ ss.take 0)) 0 :=
  ⟨_, #[], 0, _, ho, ⟨rfl, rfl, rfl⟩, rfl, (fun e he => by simp at he), (by simp), (fun k => by simp), (by decide), (by rfl), rfl, List.Pairwise.nil, by
    show _ ∨ (!w.params.followText "set-order") = true
    cases w.params.followText "set-order"
    · exact .inr rfl
    · exact .inl rfl⟩
theorem set_update_txt {I : Addr} {fp wr : List Addr} {G : Array GenState → Array GenState → Prop} {n : Nat} {Pv : Nat → Value → Prop} {St : Nat → Shared → Prop} {R : Result → Shared → Prop}
    (W : WalksS P w A.in1 I fp wr G n Pv St) (S : Addr) (hSf : S ∉ fp) (ns : List Str) (hn : n = ns.length) (hb : ns.length + 1 < scanBound) (hval : ∀ i v, Pv i v → ∃ k t, ns[i]? = some k ∧ v = .str k t) :
    ∀ (k i : Nat) (s : Shared), n - i = k → i ≤ n → St i s → (∃ c, c ≤ i ∧ TxR w s.heap S (fun j => decide (j ∈ ns.take i)) c) →
      (∀ s' c, Moved (S :: wr) G s s' → c ≤ n → TxR w s'.heap S (fun j => decide (j ∈ ns)) c → R (.ok (.ret .none)) s') →
      codeAny (model P w) A (.builtin "set.update.loop" ⟨[.ref S, .ref I], []⟩) R s := by
  have hSw : S ∉ wr := fun h => hSf (W.sub _ h)
  have hsub : ∀ b ∈ wr, b ∈ S :: wr := fun b hb => List.mem_cons_of_mem _ hb
  intro k
  induction k with
  | zero =>
    intro i s hk' hi hst ⟨c, hc, hS⟩ hR
    have hin : i = n := by omega
    subst hin
    refine codeAny_builtin PyProof.Rows.F.entry_set_update_loop ?_
    rw [Around.under_plainId PyProof.Rows.F.plain_set_update_loop _]
    show wpAny _ A.in1 (pyNext (.ref I) >>= _) _ _ s
    refine wpAny_bind (W.done s _ _ hst fun s' hm => ?_)
    show wpAny _ A.in1 (ret Value.none) _ _ s'
    have e : ns.take i = ns := List.take_of_length_le (by omega)
    rw [e] at hS
    exact wpAny_pure (hR s' c (hm.mono hsub) hc (hS.at fun o e => hm.heap S o hSw e))
  | succ k ih =>
    intro i s hk' hi hst ⟨c, hc, hS⟩ hR
    have hlt : i < n := by omega
    refine codeAny_builtin PyProof.Rows.F.entry_set_update_loop ?_
    rw [Around.under_plainId PyProof.Rows.F.plain_set_update_loop _]
    show wpAny _ A.in1 (pyNext (.ref I) >>= _) _ _ s
    refine wpAny_bind (W.item i s _ _ hlt hst fun v s' hP hst' hm => ?_)
    obtain ⟨z, t, hz, rfl⟩ := hval i v hP
    have hS' : TxR w s'.heap S (fun j => decide (j ∈ ns.take i)) c := hS.at fun o e => hm.heap S o hSw e
    show wpAny _ A.in1 (holding [Value.str z t] (setAdd S (.str z t)) >>= _) _ _ s'
    refine wpAny_bind (wpAny_holding ?_)
    unfold setAdd
    refine wpAny_holding ?_
    refine wpAny_bind ((PySem.strKind P w).pyHash (k := z) (strKind_is _ _ _ _) ?_)
    refine txR_add (s := { s' with toks := s'.toks + 1 }) hS' (by omega) fun h' hsb hS2 => ?_
    have hS3 : TxR w h' S (fun j => decide (j ∈ ns.take (i + 1))) (if decide (z ∈ ns.take i) = true then c else c + 1) := hS2.congr fun j => by
      rw [List.take_add_one, hz]
      simp [List.mem_append]
    have hc3 : (if decide (z ∈ ns.take i) = true then c else c + 1) ≤ i + 1 := by
      split <;> omega
    refine wpAny_pure ⟨plainId_quiet PyProof.Rows.F.plain_set_update_loop _, ih (i + 1) _ (by omega) hlt (W.frame _ s' _ _ hst' (Nat.le_succ _) fun b hb o e => ?_) ⟨_, hc3, hS3⟩ fun s'' c2 hm'' hc'' hS'' => ?_⟩
    · rw [hsb.2 b (fun h : b = S => hSf (by rw [← h]; exact hb))]; exact e
    · refine hR s'' c2 (Moved.trans W.gtrans ((hm.mono hsub).then_heap (Nat.le_succ _) fun b o hb e => ?_) hm'') hc'' hS''
      rw [hsb.2 b (fun h : b = S => hb (by rw [h]; exact List.mem_cons_self))]; exact e
theorem txs_at : ∀ {us : List Value} {xs : List Str}, StrsAre us xs → ∀ (i : Nat) (v : Value), us[i]? = some v → ∃ x t, xs[i]? = some x ∧ v = .str x t
  | _, _, .nil, i, v, h => by simp at h
  | _, _, .cons n t hr, 0, v, h => by
    simp only [List.getElem?_cons_zero, Option.some.injEq] at h
    exact ⟨n, t, rfl, h.symm⟩
  | _, _, .cons n t hr, i + 1, v, h => by
    simp only [List.getElem?_cons_succ] at h ⊢
    exact txs_at hr i v h
set_option maxHeartbeats 3200000 in
theorem call_set_listTx {l : Addr} {items : Array Value} (ns : List Str) {Q : Value → Shared → Prop} (hh : A.handled = none) (hl : s.heap.IsList l items) (hit : StrsAre items.toList ns) (hb : ns.length + 1 < scanBound)
    (h : ∀ (h' : Heap) (tk c : Nat), TxR w h' s.heap.objs.size (fun j => decide (j ∈ ns)) c → c ≤ ns.length → (∀ b o, s.heap.get? b = some o → h'.get? b = some o) → Q (.ref s.heap.objs.size) { s with heap := h', toks := tk }) :
    wpAny (model P w) A (call (.type "set") [.ref l]) Q E s := by
  have hisz : items.size = ns.length := by
    have q := PyProof.Rows.StrsAre.length hit
    rw [Array.length_toList] at q
    exact q
  obtain ⟨c, tl, hmro⟩ := PySem.F.called_set.mro
  have hmade := PySem.F.called_set.made
  have hsub := PySem.F.called_set.sub
  refine wpAny_call (codeAny_of_tree ?_)
  show wpAny _ _ (callAny (.type "set") _) _ _ _
  refine wpAny_pure ⟨Code.quiet_builtin _ (by decide +kernel), codeAny_builtin PySem.F.entry_type_call ?_⟩
  rw [Around.under_plain (weight_type_call_type "set" [.ref l] []) rfl]
  have h1 := PySem.F.called_set.notType
  have h2 := PySem.F.called_set.canCreate
  have hct := PySem.F.typeCall_set_1 (.ref l)
  repeat (any_goals (first | assumption | wp_step))
  refine codeAny_mono (code_set_led1 (.ref l) (E := E) (Q₁ := fun obj s₁ => obj = .ref s.heap.objs.size ∧ s₁ = { s with heap := s.heap.push { cls := .type "set", dict := none, data := .set #[] 0 (.fresh 0 0 (!w.params.followText "set-order")) } }) ⟨rfl, rfl⟩) fun r s₁ hr => ?_
  cases r with
  | error e => exact hr
  | ok fl =>
    cases fl with
    | ret obj =>
      obtain ⟨rfl, rfl⟩ := hr
      have hS : (s.heap.push { cls := .type "set", dict := none, data := .set #[] 0 (.fresh 0 0 (!w.params.followText "set-order")) }).get? s.heap.objs.size = some { cls := .type "set", dict := none, data := .set #[] 0 (.fresh 0 0 (!w.params.followText "set-order")) } := Heap.get?_push_size _ rfl
      have hT : Shared.TypeIs { s with heap := s.heap.push { cls := .type "set", dict := none, data := .set #[] 0 (.fresh 0 0 (!w.params.followText "set-order")) } } (.ref s.heap.objs.size) "set" := ⟨_, hS, rfl⟩
      have hli := PySem.F.called_set.init.lookup
      have hbi := PySem.F.called_set.init.bind (.ref s.heap.objs.size)
      repeat (any_goals (first | assumption | wp_step))
      refine codeAny_mono (codeAny_call_builtin (R := wants (fun r s₂ => r = .none ∧ ∃ h' tk c, s₂ = { s with heap := h', toks := tk } ∧ TxR w h' s.heap.objs.size (fun j => decide (j ∈ ns)) c ∧ c ≤ ns.length ∧
          (∀ b o, s.heap.get? b = some o → h'.get? b = some o)) E) PySem.F.called_set.init.plain PySem.F.entry_set_init (check_set_init_1 hT ?_)) fun r₂ s₂ hr₂ => ?_
      · obtain ⟨ol, hol, hcl, nl, hdl⟩ := hl
        obtain ⟨ocls, odict, odata, oslots⟩ := ol
        simp only at hcl hdl
        subst hcl; subst hdl
        have hol' : (s.heap.push { cls := .type "set", dict := none, data := .set #[] 0 (.fresh 0 0 (!w.params.followText "set-order")) }).get? l = some { cls := .type "list", dict := odict, data := .seq items nl, slots := oslots } := Heap.get?_push_of_some _ hol
        have hsls := PySem.F.sub_list_set
        have hslf := PySem.F.sub_list_frozenset
        have hne : (Value.type "list" == Value.type "dict") = false := by decide
        have hl1 : (s.heap.push { cls := .type "set", dict := none, data := .set #[] 0 (.fresh 0 0 (!w.params.followText "set-order")) }).IsList l items := ⟨_, hol', rfl, nl, rfl⟩
        unfold Builtin.«set.__init__» noKeywords Builtin.Frozenset.updateFrom
        generalize hPI : pyIter = PI
        clear h hbi hli hmro hmade hsub h1 h2 hct hol'
        wp_walk
        subst hPI
        refine wpAny_pyIter_list hl1 ?_
        refine wpAny_bind (wpAny_runValue ?_)
        have hlS : l < s.heap.objs.size := Heap.lt_size hol
        have hh3 : A.in1.in1.in1.handled = none := by simp [hh]
        have hneI : l ≠ (s.heap.push { cls := .type "set", dict := none, data := .set #[] 0 (.fresh 0 0 (!w.params.followText "set-order")) }).objs.size := by
          rw [Heap.size_push]; exact Nat.ne_of_lt (Nat.lt_succ_of_lt hlS)
        have hSf : s.heap.objs.size ∉ [(s.heap.push { cls := .type "set", dict := none, data := .set #[] 0 (.fresh 0 0 (!w.params.followText "set-order")) }).objs.size, l] := by
          rw [Heap.size_push]; simp only [List.mem_cons, List.mem_singleton, List.not_mem_nil, or_false, not_or]
          exact ⟨Nat.ne_of_lt (Nat.lt_succ_self _), Nat.ne_of_gt hlS⟩
        have hval : ∀ (i : Nat) (v : Value), items[i]? = some v → ∃ k t, ns[i]? = some k ∧ v = .str k t := fun i v hv => txs_at hit i v (by rw [Array.getElem?_toList]; exact hv)
        refine set_update_txt ((Walks.list hh3 _ l hneI items).toS) s.heap.objs.size
          hSf ns hisz hb hval (items.size - 0) 0 _ (by omega) (Nat.zero_le _)
          ⟨⟨_, Heap.get?_push_size _ rfl, rfl, rfl⟩, (hl1.push _)⟩ ?hS0 ?hR
        case hS0 =>
          have hget : ((s.heap.push { cls := .type "set", dict := none, data := .set #[] 0 (.fresh 0 0 (!w.params.followText "set-order")) }).push { cls := .type "list_iterator", data := .fields #[.ref l, .int 0 0] }).get? s.heap.objs.size
              = some { cls := .type "set", dict := none, data := .set #[] 0 (.fresh 0 0 (!w.params.followText "set-order")) } := Heap.get?_push_of_some _ hS
          exact ⟨0, Nat.le_refl 0, txR_new hget⟩
        case hR =>
          intro s' c' hm hc' hS'
          obtain ⟨h', g2, d', tk', os'⟩ := s'
          have eg : g2 = s.gens := hm.gens
          have ed : d' = s.drawn := hm.drawn
          have eo : os' = s.os := hm.os
          subst eg; subst ed; subst eo
          show wpAny _ _ _ _ _ _
          refine wpAny_pure ?_
          show wpAny _ _ (ret Value.none) _ _ _
          rw [hisz] at hc'
          refine wpAny_pure ⟨rfl, h', tk', c', rfl, hS', hc', fun b o e => ?_⟩
          have hb0 : b < s.heap.objs.size := Heap.lt_size e
          have hb1 : b ≠ s.heap.objs.size := Nat.ne_of_lt hb0
          have hb2 : b ≠ (s.heap.push { cls := .type "set", dict := none, data := .set #[] 0 (.fresh 0 0 (!w.params.followText "set-order")) }).objs.size := by
            rw [Heap.size_push]; exact Nat.ne_of_lt (Nat.lt_succ_of_lt hb0)
          exact hm.heap b o (by simp only [List.mem_cons, List.mem_singleton, List.not_mem_nil, or_false, not_or]; exact ⟨hb1, hb2⟩) (Heap.get?_push_of_some _ (Heap.get?_push_of_some _ e))
      · cases r₂ with
        | error e => exact hr₂
        | ok fl₂ =>
          cases fl₂ with
          | ret r =>
            obtain ⟨rfl, h', tk, c', rfl, hS', hc', hk'⟩ := hr₂
            repeat (any_goals (first | assumption | wp_step))
            exact h _ _ _ hS' hc' hk'
          | _ => exact hr₂.elim
    | _ => exact hr.elim
end
section
variable {X : Cx}
theorem setTx_new {w : World} {P : Program} {H : Hp} {h : Heap} {a : Addr} {ss : List Str} {n : Nat} (hn : n ≤ ss.length) (R : TxR w h a (fun k => decide (k ∈ ss)) n) : ObjOk P w H h a (SetSO w a ss) := by
  have ⟨o, _, _, _, ho, _⟩ := R
  exact ⟨⟨n, hn, R⟩, ⟨o, ho⟩, fun h1 h2 p k => by
    obtain ⟨m, hm, r⟩ := p
    exact ⟨m, hm, r.at k⟩⟩
def rSetS (w : World) : List V → Hp → VK → Prop := fun xs H Q => ∃ (a : Addr) (ss : List Str), xs = [.ref a] ∧ H a = some (.lst (ss.map V.str)) ∧ ss.length < 64 ∧ ∀ p, H p = none → Q (.ref p) (upd H p (SetSO w p ss))
theorem call_setS (hc : X.calm = true) : CallR X (.type "set") (rSetS X.w) := by
  intro pins s σ H vs us Q I r h
  obtain ⟨a, ss, rfl, ha, h64, q⟩ := h
  obtain ⟨its, rv, pl, hz⟩ := I.list (SqL.of ha)
  rw [Vals.ref1 r]
  have hn : H s.heap.objs.size = none := I.hok.fresh (Nat.le_refl _)
  have hS := rv.strs
  refine call_set_listTx (P := X.prog) (w := X.w) ss (I.ok.hd hc) pl.isList (by simpa using hS) (by have : scanBound = 4096 := rfl; omega) fun h' tk c R hcn k => ?_
  exact ⟨.ref s.heap.objs.size, upd H s.heap.objs.size (SetSO X.w s.heap.objs.size ss), I.laid (t' := tk) k (Nat.le_refl _) (setTx_new hcn R), rfl, q _ hn⟩
end
section
variable {prog : Program} {w : World} {A : Around} {E : Value → Shared → Prop} {s : Shared}
theorem collect_tupF {l : Addr} {vs : List Value} {Q : List Value → Shared → Prop} (hl : IsTup s.heap l vs.toArray)
    (h : Q vs { s with heap := (s.heap.push (seqObj "list" #[] 0)).update s.heap.objs.size (Obj.mapSeq (· ++ vs.toArray)) }) (hsz : vs.length ≤ sizeLine) :
    wpAny (model prog w) A (collect (.ref l)) Q E s := by
  obtain ⟨o, ho, hc, n, hd⟩ := id hl
  unfold collect
  refine wpAny_bind (wpAny_runValue (codeAny_builtin PyProof.Rows.entry_proto_collect' ?_))
  show wpAny _ _ (do again (.builtin "list.__iadd__" ⟨[← newList [], .ref l], []⟩)) _ _ s
  refine wpAny_bind (wpAny_newList (wpAny_pure ⟨Code.quiet_builtin _ (by decide +kernel), codeAny_builtin PyProof.Rows.entry_list_iadd' ?_⟩))
  show wpAny _ _ (Builtin.List.listExtendWith (.ref s.heap.objs.size) (.ref l) (.ref s.heap.objs.size)) _ _ { s with heap := s.heap.push (seqObj "list" #[] 0) }
  unfold Builtin.List.listExtendWith
  have ho' : (s.heap.push (seqObj "list" #[] 0)).get? l = some o := Heap.get?_push_of_some _ ho
  refine wpAny_bind (wpAny_typeOf (T := "tuple") ⟨o, ho', hc⟩ ?_)
  have ht : (Value.type "tuple" == Value.type "tuple") = true := by rfl
  rw [if_pos (by rw [ht]; simp)]
  refine wpAny_bind (listItems_at ho' hd ?_)
  refine wpAny_bind (listItems_at (xs := #[]) (n := 0) (Heap.get?_push_size _ rfl) rfl ?_)
  rw [if_neg (by simp)]
  refine wpAny_bind (listUpdate_at (xs := #[]) (n := 0) (Heap.get?_push_size _ rfl) rfl ?_ (Nat.zero_le _) (by show (#[] ++ vs.toArray).size ≤ sizeLine + 1; simp only [Array.size_append, List.size_toArray, List.length_nil]; omega))
  refine wpAny_pure ?_
  show wpAny (model prog w) A (do
      let o ← load s.heap.objs.size
      match o.data with
      | .seq xs _ => pure xs.toList
      | _ => unsupported "internal:collect") Q E { s with heap := (s.heap.push (seqObj "list" #[] 0)).update s.heap.objs.size (Obj.mapSeq (· ++ vs.toArray)) }
  refine wpAny_bind (wpAny_load (get?_update_seq (Heap.get?_push_size _ rfl) _) ?_)
  show wpAny _ _ (pure ((#[] : Array Value) ++ vs.toArray).toList) Q E _
  rw [show ((#[] : Array Value) ++ vs.toArray).toList = vs by simp]
  exact wpAny_pure h
end
section
variable {X : Cx}
def rSortT : List V → Hp → VK → Prop := fun xs H Q => ∃ (a : Addr) (ss : List Str), xs = [.ref a] ∧ H a = some (.tup (ss.map V.str)) ∧ ss.length < 64 ∧ ∀ (ys : List Str) (p : Addr), ys.Perm ss → H p = none → Q (.ref p) (upd H p (.lst (ys.map V.str)))
theorem call_sortedTup : CallR X (.builtin "sorted") rSortT := by
  intro pins s σ H vs us Q I r h
  obtain ⟨a, ss, rfl, ha, h64, q⟩ := h
  obtain ⟨hz, its, rv, pl⟩ := I.hok a _ ha
  rw [Vals.ref1 r]
  have hS : StrsAre its ss := rv.strs
  have hl : its.length = ss.length := PyProof.Rows.StrsAre.length hS
  refine Calls.call_function_entry PyProof.Rows.kind_sorted PyProof.Rows.plain_sorted PyProof.Rows.entry_sorted (PyProof.Rows.args_sorted1 _) ?_
  unfold Builtin.«sorted»
  refine wpAny_bind (m := checkCount "sorted" 1 1 _) (wpAny_pure ?_)
  have hzi : its.length ≤ sizeLine := by rw [hl, sizeLine_eq]; omega
  refine wpAny_bind (collect_tupF (A := X.A.in1) pl ?_ hzi)
  have hk1 : ∀ b u, s.heap.get? b = some u → ((s.heap.push (seqObj "list" #[] 0)).update s.heap.objs.size (Obj.mapSeq (· ++ its.toArray))).get? b = some u := fun b u e => by
    rw [Heap.get?_update_ne _ _ _ _ (Nat.ne_of_lt (Heap.lt_size e))]
    exact Heap.get?_push_of_some _ e
  have hz1 : ((s.heap.push (seqObj "list" #[] 0)).update s.heap.objs.size (Obj.mapSeq (· ++ its.toArray))).objs.size = s.heap.objs.size + 1 := by
    rw [Heap.size_update, size_push']
  generalize (s.heap.push (seqObj "list" #[] 0)).update s.heap.objs.size (Obj.mapSeq (· ++ its.toArray)) = h1 at hk1 hz1 ⊢
  have I1 : Inv X pins σ H { s with heap := h1, toks := s.toks } := I.kept hk1
  refine wpAny_bind (wpAny_newList ?_ hzi)
  have hoL : (h1.push (seqObj "list" its.toArray 0)).get? h1.objs.size = some (seqObj "list" its.toArray 0) := Heap.get?_push_size _ rfl
  show wpAny _ _ _ _ _ { s with heap := h1.push (seqObj "list" its.toArray 0), toks := s.toks }
  refine wpAny_bind (wpAny_holding (wpAny_call_entry PyProof.Rows.slot_list_sort ⟨_, hoL, rfl⟩ PyProof.Rows.entry_list_sort
    (list_sort_treeK strKind_oneLt (s := { s with heap := h1.push (seqObj "list" its.toArray 0), toks := s.toks }) hoL hS.keysOf (fun v₁ v₂ rest e => keyKind_strs (by rw [← e]; exact hS)) (by rw [hl]; exact h64) fun st' hp hs => ⟨_, rfl, ?_⟩)
    (PyProof.Rows.args_list_sort _)))
  obtain ⟨ys, g1, g2, g3⟩ := sorted_out_str hS hp hs
  obtain ⟨e', he'⟩ := PyProof.Rows.sortedHeap_at (vs := its) (out := (arrOf st').map (·.2)) hoL
  have hlen : (ys.map V.str).length ≤ sizeLine := by
    rw [List.length_map, g2.length_eq]
    exact Nat.le_trans (Nat.le_of_lt h64) (by decide)
  refine wpAny_pure ⟨_, rfl, .ref h1.objs.size, upd H h1.objs.size (.lst (ys.map V.str)), I1.laid (t' := s.toks) (fun b u e => ?_) (Nat.le_refl _)
    (show ObjOk X.prog X.w _ _ _ (.lst (ys.map V.str)) from ⟨hlen, ((arrOf st').map (·.2)).toList, e', vals_of_strs g1, by rw [Array.toArray_toList]; exact he'⟩), rfl, q ys _ g2 (I1.hok.fresh (Nat.le_refl _))⟩
  have hb : b < h1.objs.size := Heap.lt_size e
  rw [PyProof.Rows.sortedHeap_old (Nat.ne_of_lt hb) (by rw [size_push']; exact Nat.lt_succ_of_lt hb)]
  exact Heap.get?_push_of_some _ e
end
end Snk
set_option Elab.async false
set_option linter.all false
set_option maxRecDepth 100000
set_option maxHeartbeats 4000000
/-! # Part 4: walks of the bounds -/
namespace Snk
open PySem PySem.Spec PyProof.Rows L2
local macro_rules | `(tactic| walk_at "K") => `(tactic| try simp only [ws_K, ws_P, ws_w, cx_K, cx_P, cx_w])
local macro_rules | `(tactic| walk_at "isi") => `(tactic| first
  | with_reducible refine r_isB (.base (.int _)) kk_int_int ?_ | with_reducible refine r_isB (.base (.int _)) kk_int_bool ?_ | with_reducible refine r_isB (.base (.int _)) kk_int_str ?_ | with_reducible refine r_isB (.base (.int _)) kk_int_tuple ?_ | with_reducible refine r_isB (.base (.bl _)) kk_bool_int ?_ | with_reducible refine r_isB (.base (.bl _)) kk_bool_bool ?_ | with_reducible refine r_isB (.base (.bl _)) kk_bool_str ?_ | with_reducible refine r_isB (.base (.bl _)) kk_bool_tuple ?_ | with_reducible refine r_isB (.base (.str _)) kk_str_int ?_ | with_reducible refine r_isB (.base (.str _)) kk_str_bool ?_ | with_reducible refine r_isB (.base (.str _)) kk_str_str ?_ | with_reducible refine r_isB (.base (.str _)) kk_str_tuple ?_ | with_reducible refine r_isB (.base .non) kk_NoneType_int ?_ | with_reducible refine r_isB (.base .non) kk_NoneType_bool ?_ | with_reducible refine r_isB (.base .non) kk_NoneType_str ?_ | with_reducible refine r_isB (.base .non) kk_NoneType_tuple ?_ | with_reducible refine r_isB (.base (.tup (by assumption))) kk_tuple_int ?_ | with_reducible refine r_isB (.base (.tup (by assumption))) kk_tuple_bool ?_ | with_reducible refine r_isB (.base (.tup (by assumption))) kk_tuple_str ?_ | with_reducible refine r_isB (.base (.tup (by assumption))) kk_tuple_tuple ?_)
local macro_rules | `(tactic| tb_rel) => `(tactic| first | assumption | exact upd_same | ((refine look_old ?hl ?hn); (case hn => assumption); (case hl => tb_rel)) | ((refine Gr.tup (by assumption) _ _ ?hl); (case hl => tb_rel)))
local macro_rules | `(tactic| tb_start) => `(tactic| first
  | ((with_reducible refine' r_var ?hvar ?_); (case hvar => exact rfl))
  | with_reducible refine r_c ?_ | with_reducible refine r_op ?_ | with_reducible refine r_un ?_ | with_reducible refine r_chain ?_ | with_reducible refine r_tup ?_ | with_reducible refine r_lst ?_ | with_reducible refine r_cons ?_ | with_reducible refine r_nil ?_ | with_reducible refine r_cb ?_ | with_reducible refine r_call ?_ | with_reducible refine r_bm ?_ | with_reducible refine r_bm0 ?_ | with_reducible refine r_sl ?_ | with_reducible refine r_test ?_ | with_reducible refine r_tb ?_ | with_reducible refine r_tand ?_ | with_reducible refine r_tor ?_ | with_reducible refine r_tnot ?_ | with_reducible refine r_andV ?_ | with_reducible refine r_orV ?_ | with_reducible refine r_notV ?_ | with_reducible refine r_ife ?_ | with_reducible refine s_seq ?_ | with_reducible refine s_nextM ?_ | with_reducible refine s_next ?_ | with_reducible refine s_ret ?_ | with_reducible refine s_if ?_ | with_reducible refine s_asg ?_ | with_reducible refine s_drop ?_ | with_reducible refine s_cont ?_ | with_reducible refine s_break ?_ | with_reducible refine g_name ?_ | with_reducible refine r_I0 ?_ | with_reducible refine r_U ?_ | with_reducible refine k_bl2 ?_ | with_reducible refine r_part ?_ | with_reducible refine r_nopart ?_ | with_reducible refine if_tt ?_ | with_reducible refine if_ff ?_ | with_reducible refine if_nf ?_ | with_reducible refine if_nt ?_
  | ((with_reducible refine' r_eq ?hsc ?_); (case hsc => exact rfl)) | ((with_reducible refine' r_ne ?hsc ?_); (case hsc => exact rfl)) | ((with_reducible refine isi_g ?_); walk_at "isi") | (first | ((with_reducible refine' r_ixT ?hix ?eix ?_); (case hix => tb_rel); (case eix => first | exact at0 | exact at1 | exact at2 | rfl))) | ((with_reducible refine' if_t ?hc ?_); (case hc => decide +kernel)) | ((with_reducible refine' if_f ?hc ?_); (case hc => decide +kernel)))
local macro_rules | `(tactic| walk_at "go") => `(tactic| repeat tb_start)
local macro_rules | `(tactic| walk_at "gr") => `(tactic| first | exact Gr.refl _ _ | assumption | ((refine Gr.trans ?ga (Gr.new ?gn)); (case gn => assumption); (case ga => walk_at "gr")) | ((refine' Gr.trans ?ga ?gb); (case gb => assumption); (case ga => walk_at "gr")))
local macro_rules | `(tactic| walk_at "go2") => `(tactic| repeat (first | tb_start | (((with_reducible refine' And.intro ?hz ?_); (case hz => (refine sz10 ?_; first | decide | (simp; done) | (simp; omega))); intro p hp)) | (first | ((with_reducible refine' r_inT ?hs ?hf ?ha ?_); (case hs => first | assumption | exact SqT.of (by tb_rel)); (case hf => rfl); (case ha => first | rfl | decide +kernel | exact flat_strs)) | ((with_reducible refine' r_niT ?hs ?hf ?ha ?_); (case hs => first | assumption | exact SqT.of (by tb_rel)); (case hf => rfl); (case ha => first | rfl | decide +kernel | exact flat_strs)))))
/-- the module's constants -/
structure Glo (K : PySem.W.Frag) (mg : Str → Option Value) : Prop where
  limit : ∃ t, mg "LIMIT" = some (.int 1000000000000000000 t)
  flimit : ∃ t, mg "FIELD_LIMIT" = some (.int 1000000000 t)
  mtext : ∃ t, mg "MOST_TEXT" = some (.int 40 t)
  mlen : ∃ t, mg "MOST_LENGTH" = some (.int 200 t)
  mcode : ∃ t, mg "MOST_CODE" = some (.int 400 t)
  pairs : ∃ a, mg "PAIRS" = some (.ref a) ∧ ∀ H, SqT K H a PAIRSV
section
variable {P : Program} {w : World} {K : PySem.W.Frag} {mg : Str → Option Value} {base : Heap}
/-! ### kind_bounds -/
abbrev nm_kind_bounds : List Str := ["kind"]
theorem sc_kind_bounds : FnScope nm_kind_bounds ["kind"] (defScope (topS 12)) := ⟨rfl, rfl, rfl, by decide +kernel, rfl, by decide +kernel, by decide +kernel⟩
-- slots: 0:kind
def spKB : Sp := fun vs H Q _ => ∃ (v : V) (b : Bd), vs = [v] ∧ BdV H v b ∧ KindOk b ∧ ∀ H' u c, Gr no H H' → BdV H' u c → BdOk c → Sub b c → Q u H'
theorem c_kind_bounds (D : DefAt K mg "kind_bounds" 12 ["kind"]) (B : Blt mg) : Cal P w K mg base CX0 1 "kind_bounds" ["kind"] spKB := by
  refine mk0 D sc_kind_bounds (fun vs H Q E h => by obtain ⟨v, b, rfl, _⟩ := h; rfl) ?_
  rintro X Q vs H E ⟨f, cdv, A, outer, s, H0, rfl⟩ hr ⟨v, b, rfl, hv, hk, q⟩
  refine ⟨_, (pss_cons (ps_if (pt_cmpR op_eq (pe_ix ix_tup (pv 0) pe_int (fun _ _ => rfl)) pe_str (nomark _)) (pss_one (ps_ret (pe_tup (pa_cons pe_str (pa_cons (pe_callTy call_tuple_of rfl B.tuple_ (by decide +kernel) (pa_cons (pe_callB call_sortedTup rfl B.sorted_ (by decide +kernel) (pa_cons (pe_ix ix_tup (pv 0) pe_int (fun _ _ => rfl)) pa_nil)) pa_nil)) pa_nil))))) pss_nil)
      (pss_one (ps_ret (pv 0)))), ?_⟩
  walk_at "K"
  cases b with
  | word ws =>
    obtain ⟨a, c, rfl, h1, h2⟩ := hv
    walk_at "go"
    refine ⟨c, ws, rfl, h2, by have := hk.1.len; omega, fun ys p hp hn => ?_⟩
    walk_at "go"
    refine ⟨p, _, rfl, .inl ⟨SqL.of upd_same, fun l hl => ?_⟩⟩
    walk_at "go"
    refine ⟨sz10 (by simp), fun r hr => ?_⟩
    refine q _ _ (.word ys) (((Gr.new hn).trans (Gr.new hl)).trans (Gr.new hr)) ⟨r, l, rfl, upd_same, ?_⟩ ⟨hp.nodup_iff.mpr hk.1.1, fun s hs => hk.1.2 s (hp.mem_iff.mp hs)⟩ ⟨rfl, fun v h => ?_⟩
    · exact look_old upd_same hr
    · obtain ⟨s, e, hs⟩ := h
      exact ⟨s, e, hp.mem_iff.mpr hs⟩
  | int lo hi =>
    obtain ⟨a, rfl, h1⟩ := id hv
    walk_at "go"
    exact q _ _ _ (Gr.refl _ _) hv hk.ok (Sub.refl _)
  | flag =>
    obtain ⟨a, rfl, h1⟩ := id hv
    walk_at "go"
    exact q _ _ _ (Gr.refl _ _) hv hk.ok (Sub.refl _)
  | text n =>
    obtain ⟨a, rfl, h1⟩ := id hv
    walk_at "go"
    exact q _ _ _ (Gr.refl _ _) hv hk.ok (Sub.refl _)
/-! ### literal_bounds -/
abbrev nm_literal_bounds : List Str := ["head", "value"]
theorem sc_literal_bounds : FnScope nm_literal_bounds ["head", "value"] (defScope (topS 13)) := ⟨rfl, rfl, rfl, by decide +kernel, rfl, by decide +kernel, by decide +kernel⟩
-- slots: 0:head 1:value
inductive Lit : Str → V → Prop where
  | int {i : Int} (h : -1000000000000000000 ≤ i ∧ i ≤ 1000000000000000000) : Lit "int" (.int i)
  | flag {b : Bool} : Lit "flag" (.bl b)
  | word {s : Str} (h : s ∈ WRD) : Lit "word" (.str s)
  | text {s : Str} (h : s.length ≤ 40) : Lit "text" (.str s)
def spLit : Sp := fun vs H Q _ => ∃ (h : Str) (v : V), vs = [.str h, v] ∧ Lit h v ∧ ∀ H' u c, Gr no H H' → BdV H' u c → BdOk c → Gam c v → Q u H'
theorem c_literal_bounds (D : DefAt K mg "literal_bounds" 13 ["head", "value"]) (B : Blt mg) : Cal P w K mg base CX0 1 "literal_bounds" ["head", "value"] spLit := by
  refine mk0 D sc_literal_bounds (fun vs H Q E h => by obtain ⟨v, b, rfl, _⟩ := h; rfl) ?_
  rintro X Q vs H E ⟨f, cdv, A, outer, s, H0, rfl⟩ hr ⟨h, v, rfl, hl, q⟩
  refine ⟨_, (pss_cons (ps_if (pt_cmpR op_eq (pv 0) pe_str (nomark _)) (pss_one (ps_ret (pe_tup (pa_cons pe_str (pa_cons (pv 1) (pa_cons (pv 1) pa_nil)))))) pss_nil)
      (pss_cons (ps_if (pt_cmpR op_eq (pv 0) pe_str (nomark _)) (pss_one (ps_ret (pe_tup (pa_cons pe_str pa_nil)))) pss_nil)
      (pss_cons (ps_if (pt_cmpR op_eq (pv 0) pe_str (nomark _)) (pss_one (ps_ret (pe_tup (pa_cons pe_str (pa_cons (pe_tup (pa_cons (pv 1) pa_nil)) pa_nil))))) pss_nil)
      (pss_one (ps_ret (pe_tup (pa_cons pe_str (pa_cons (pe_callB call_len_str rfl B.len_ PySem.boot_len (pa_cons (pv 1) pa_nil)) pa_nil)))))))), ?_⟩
  walk_at "K"
  cases hl with
  | int h =>
    walk_at "go"
    refine ⟨sz10 (by simp), fun r hr => ?_⟩
    exact q _ _ (.int _ _) (Gr.new hr) ⟨r, rfl, upd_same⟩ ⟨h.1, Int.le_refl _, h.2⟩ ⟨_, rfl, Int.le_refl _, Int.le_refl _⟩
  | flag =>
    walk_at "go"
    refine ⟨sz10 (by simp), fun r hr => ?_⟩
    exact q _ _ .flag (Gr.new hr) ⟨r, rfl, upd_same⟩ trivial ⟨_, rfl⟩
  | word h =>
    walk_at "go"
    refine ⟨sz10 (by simp), fun l hl => ?_⟩
    walk_at "go"
    refine ⟨sz10 (by simp), fun r hr => ?_⟩
    refine q _ _ (.word [_]) ((Gr.new hl).trans (Gr.new hr)) ⟨r, l, rfl, upd_same, look_old upd_same hr⟩ ⟨by simp, fun s hs => ?_⟩ ⟨_, rfl, by simp⟩
    rw [List.mem_singleton] at hs
    rw [hs]; exact h
  | text h =>
    walk_at "go"
    refine ⟨_, rfl, sz10 (by omega), ?_⟩
    walk_at "go"
    refine ⟨sz10 (by simp), fun r hr => ?_⟩
    exact q _ _ (.text _) (Gr.new hr) ⟨r, rfl, upd_same⟩ ⟨by omega, by omega⟩ ⟨_, rfl, Int.le_refl _⟩
end
end Snk
set_option Elab.async false
set_option linter.all false
set_option maxRecDepth 100000
set_option maxHeartbeats 4000000
namespace Snk
open PySem PySem.Spec PyProof.Rows L2
local macro_rules | `(tactic| walk_at "K") => `(tactic| try simp only [ws_K, ws_P, ws_w, cx_K, cx_P, cx_w])
local macro_rules | `(tactic| walk_at "isi") => `(tactic| first
  | with_reducible refine r_isB (.base (.int _)) kk_int_int ?_ | with_reducible refine r_isB (.base (.int _)) kk_int_bool ?_ | with_reducible refine r_isB (.base (.int _)) kk_int_str ?_ | with_reducible refine r_isB (.base (.int _)) kk_int_tuple ?_ | with_reducible refine r_isB (.base (.bl _)) kk_bool_int ?_ | with_reducible refine r_isB (.base (.bl _)) kk_bool_bool ?_ | with_reducible refine r_isB (.base (.bl _)) kk_bool_str ?_ | with_reducible refine r_isB (.base (.bl _)) kk_bool_tuple ?_ | with_reducible refine r_isB (.base (.str _)) kk_str_int ?_ | with_reducible refine r_isB (.base (.str _)) kk_str_bool ?_ | with_reducible refine r_isB (.base (.str _)) kk_str_str ?_ | with_reducible refine r_isB (.base (.str _)) kk_str_tuple ?_ | with_reducible refine r_isB (.base .non) kk_NoneType_int ?_ | with_reducible refine r_isB (.base .non) kk_NoneType_bool ?_ | with_reducible refine r_isB (.base .non) kk_NoneType_str ?_ | with_reducible refine r_isB (.base .non) kk_NoneType_tuple ?_ | with_reducible refine r_isB (.base (.tup (by assumption))) kk_tuple_int ?_ | with_reducible refine r_isB (.base (.tup (by assumption))) kk_tuple_bool ?_ | with_reducible refine r_isB (.base (.tup (by assumption))) kk_tuple_str ?_ | with_reducible refine r_isB (.base (.tup (by assumption))) kk_tuple_tuple ?_)
local macro_rules | `(tactic| tb_rel) => `(tactic| first | assumption | exact upd_same | ((refine look_old ?hl ?hn); (case hn => assumption); (case hl => tb_rel)) | ((refine Gr.tup (by assumption) _ _ ?hl); (case hl => tb_rel)))
local macro_rules | `(tactic| tb_start) => `(tactic| first
  | ((with_reducible refine' r_var ?hvar ?_); (case hvar => exact rfl))
  | with_reducible refine r_c ?_ | with_reducible refine r_op ?_ | with_reducible refine r_un ?_ | with_reducible refine r_chain ?_ | with_reducible refine r_tup ?_ | with_reducible refine r_lst ?_ | with_reducible refine r_cons ?_ | with_reducible refine r_nil ?_ | with_reducible refine r_cb ?_ | with_reducible refine r_call ?_ | with_reducible refine r_bm ?_ | with_reducible refine r_bm0 ?_ | with_reducible refine r_sl ?_ | with_reducible refine r_test ?_ | with_reducible refine r_tb ?_ | with_reducible refine r_tand ?_ | with_reducible refine r_tor ?_ | with_reducible refine r_tnot ?_ | with_reducible refine r_andV ?_ | with_reducible refine r_orV ?_ | with_reducible refine r_notV ?_ | with_reducible refine r_ife ?_ | with_reducible refine s_seq ?_ | with_reducible refine s_nextM ?_ | with_reducible refine s_next ?_ | with_reducible refine s_ret ?_ | with_reducible refine s_if ?_ | with_reducible refine s_asg ?_ | with_reducible refine s_drop ?_ | with_reducible refine s_cont ?_ | with_reducible refine s_break ?_ | with_reducible refine g_name ?_ | with_reducible refine r_I0 ?_ | with_reducible refine r_U ?_ | with_reducible refine k_bl2 ?_ | with_reducible refine r_part ?_ | with_reducible refine r_nopart ?_ | with_reducible refine if_tt ?_ | with_reducible refine if_ff ?_ | with_reducible refine if_nf ?_ | with_reducible refine if_nt ?_
  | ((with_reducible refine' r_eq ?hsc ?_); (case hsc => exact rfl)) | ((with_reducible refine' r_ne ?hsc ?_); (case hsc => exact rfl)) | ((with_reducible refine isi_g ?_); walk_at "isi") | (first | ((with_reducible refine' r_ixT ?hix ?eix ?_); (case hix => tb_rel); (case eix => first | exact at0 | exact at1 | exact at2 | rfl))) | ((with_reducible refine' if_t ?hc ?_); (case hc => decide +kernel)) | ((with_reducible refine' if_f ?hc ?_); (case hc => decide +kernel)))
local macro_rules | `(tactic| walk_at "go") => `(tactic| repeat tb_start)
local macro_rules | `(tactic| walk_at "gr") => `(tactic| first | exact Gr.refl _ _ | assumption | ((refine Gr.trans ?ga (Gr.new ?gn)); (case gn => assumption); (case ga => walk_at "gr")) | ((refine' Gr.trans ?ga ?gb); (case gb => assumption); (case ga => walk_at "gr")))
local macro_rules | `(tactic| walk_at "go2") => `(tactic| repeat (first | tb_start | (((with_reducible refine' And.intro ?hz ?_); (case hz => (refine sz10 ?_; first | decide | (simp; done) | (simp; omega))); intro p hp)) | (first | ((with_reducible refine' r_inT ?hs ?hf ?ha ?_); (case hs => first | assumption | exact SqT.of (by tb_rel)); (case hf => rfl); (case ha => first | rfl | decide +kernel | exact flat_strs)) | ((with_reducible refine' r_niT ?hs ?hf ?ha ?_); (case hs => first | assumption | exact SqT.of (by tb_rel)); (case hf => rfl); (case ha => first | rfl | decide +kernel | exact flat_strs)))))
section
variable {P : Program} {w : World} {K : PySem.W.Frag} {mg : Str → Option Value} {base : Heap}
/-! ### union -/
abbrev nm_union : List Str := ["a", "b"]
theorem sc_union : FnScope nm_union ["a", "b"] (defScope (topS 14)) := ⟨rfl, rfl, rfl, by decide +kernel, rfl, by decide +kernel, by decide +kernel⟩
-- slots: 0:a 1:b
def spUnion : Sp := fun vs H Q _ => ∃ (x y : V) (a b : Bd), vs = [x, y] ∧ BdV H x a ∧ BdV H y b ∧ BdOk a ∧ BdOk b ∧ a.head = b.head ∧ ∀ H' u c, Gr no H H' → BdV H' u c → BdOk c → Sub a c → Sub b c → Q u H'
theorem c_union (D : DefAt K mg "union" 14 ["a", "b"]) (B : Blt mg) : Cal P w K mg base CX0 1 "union" ["a", "b"] spUnion := by
  refine mk0 D sc_union (fun vs H Q E h => by obtain ⟨v, b, _, _, rfl, _⟩ := h; rfl) ?_
  rintro X Q vs H E ⟨f, cdv, A, outer, s, H0, rfl⟩ hr ⟨x, y, a, b, rfl, hx, hy, oa, ob, he, q⟩
  refine ⟨_, (pss_cons (ps_if (pt_cmpR op_eq (pe_ix ix_tup (pv 0) pe_int (fun _ _ => rfl)) pe_str (nomark _)) (pss_one (ps_ret (pe_tup (pa_cons pe_str (pa_cons (pe_callB (call_min2 rfl) rfl B.min_ (by decide +kernel) (pa_cons (pe_ix ix_tup (pv 0) pe_int (fun _ _ => rfl)) (pa_cons (pe_ix ix_tup (pv 1) pe_int (fun _ _ => rfl)) pa_nil))) (pa_cons (pe_callB (call_max2 rfl) rfl B.max_ (by decide +kernel) (pa_cons (pe_ix ix_tup (pv 0) pe_int (fun _ _ => rfl)) (pa_cons (pe_ix ix_tup (pv 1) pe_int (fun _ _ => rfl)) pa_nil))) pa_nil)))))) pss_nil)
      (pss_cons (ps_if (pt_cmpR op_eq (pe_ix ix_tup (pv 0) pe_int (fun _ _ => rfl)) pe_str (nomark _)) (pss_one (ps_ret (pe_tup (pa_cons pe_str (pa_cons (pe_callTy call_tuple_of rfl B.tuple_ (by decide +kernel) (pa_cons (pe_callB (call_sortedSet rfl) rfl B.sorted_ (by decide +kernel) (pa_cons (pe_callTy (call_setS rfl) rfl B.set_ (by decide +kernel) (pa_cons (pe_op op_cat (pe_callTy call_list_of rfl B.list_ (by decide +kernel) (pa_cons (pe_ix ix_tup (pv 0) pe_int (fun _ _ => rfl)) pa_nil)) (pe_callTy call_list_of rfl B.list_ (by decide +kernel) (pa_cons (pe_ix ix_tup (pv 1) pe_int (fun _ _ => rfl)) pa_nil))) pa_nil)) pa_nil)) pa_nil)) pa_nil))))) pss_nil)
      (pss_cons (ps_if (pt_cmpR op_eq (pe_ix ix_tup (pv 0) pe_int (fun _ _ => rfl)) pe_str (nomark _)) (pss_one (ps_ret (pe_tup (pa_cons pe_str (pa_cons (pe_callB (call_max2 rfl) rfl B.max_ (by decide +kernel) (pa_cons (pe_ix ix_tup (pv 0) pe_int (fun _ _ => rfl)) (pa_cons (pe_ix ix_tup (pv 1) pe_int (fun _ _ => rfl)) pa_nil))) pa_nil))))) pss_nil)
      (pss_one (ps_ret (pv 0)))))), ?_⟩
  walk_at "K"
  cases a with
  | int lo hi =>
    cases b with
    | int lo2 hi2 =>
      obtain ⟨a, rfl, h1⟩ := hx
      obtain ⟨b, rfl, h2⟩ := hy
      walk_at "go"
      refine ⟨_, _, rfl, ?_⟩
      walk_at "go"
      refine ⟨_, _, rfl, ?_⟩
      walk_at "go"
      refine ⟨sz10 (by simp), fun r hr => ?_⟩
      refine q _ _ (.int _ _) (Gr.new hr) ⟨r, rfl, upd_same⟩ ?_ ?_ ?_
      · obtain ⟨a1, a2, a3⟩ := oa
        obtain ⟨b1, b2, b3⟩ := ob
        refine ⟨?_, ?_, ?_⟩ <;> (repeat' split) <;> omega
      · refine ⟨rfl, fun v h => ?_⟩
        obtain ⟨i, e, l1, l2⟩ := h
        refine ⟨i, e, ?_, ?_⟩ <;> split <;> omega
      · refine ⟨rfl, fun v h => ?_⟩
        obtain ⟨i, e, l1, l2⟩ := h
        refine ⟨i, e, ?_, ?_⟩ <;> split <;> omega
    | _ => cases head_kn he
  | flag =>
    cases b with
    | flag =>
      obtain ⟨a, rfl, h1⟩ := id hx
      walk_at "go"
      exact q _ _ _ (Gr.refl _ _) hx trivial (Sub.refl _) (Sub.refl _)
    | _ => cases head_kn he
  | text n =>
    cases b with
    | text m =>
      obtain ⟨a, rfl, h1⟩ := hx
      obtain ⟨b, rfl, h2⟩ := hy
      walk_at "go"
      refine ⟨_, _, rfl, ?_⟩
      walk_at "go"
      refine ⟨sz10 (by simp), fun r hr => ?_⟩
      refine q _ _ (.text _) (Gr.new hr) ⟨r, rfl, upd_same⟩ ?_ ?_ ?_
      · obtain ⟨a1, a2⟩ := oa
        obtain ⟨b1, b2⟩ := ob
        refine ⟨?_, ?_⟩ <;> split <;> omega
      · refine ⟨rfl, fun v h => ?_⟩
        obtain ⟨i, e, l1⟩ := h
        refine ⟨i, e, ?_⟩; split <;> omega
      · refine ⟨rfl, fun v h => ?_⟩
        obtain ⟨i, e, l1⟩ := h
        refine ⟨i, e, ?_⟩; split <;> omega
    | _ => cases head_kn he
  | word ws =>
    cases b with
    | word zs =>
      obtain ⟨a, a2, rfl, h1, h3⟩ := hx
      obtain ⟨b, b2, rfl, h2, h4⟩ := hy
      have n1 := oa.len
      have n2 := ob.len
      walk_at "go"
      refine ⟨a2, _, rfl, .inr (SqT.of h3), fun l hl => ?_⟩
      walk_at "go"
      refine ⟨b2, _, rfl, .inr (SqT.of (by tb_rel)), fun m hm => ?_⟩
      walk_at "go"
      refine ⟨l, m, _, _, rfl, rfl, look_old upd_same hm, upd_same, sz10 (by simp; omega), fun n hn => ?_⟩
      walk_at "go"
      refine ⟨n, ws ++ zs, rfl, by rw [upd_same, List.map_append], by simp; omega, fun p hp => ?_⟩
      walk_at "go"
      refine ⟨p, _, rfl, upd_same, by simp; omega, fun ys t hnd hs ht => ?_⟩
      walk_at "go"
      refine ⟨t, _, rfl, .inl ⟨SqL.of upd_same, fun u hu => ?_⟩⟩
      walk_at "go"
      refine ⟨sz10 (by simp), fun r hr => ?_⟩
      refine q _ _ (.word ys) (((((((Gr.new hl).trans (Gr.new hm)).trans (Gr.new hn)).trans (Gr.new hp)).trans (Gr.new ht)).trans (Gr.new hu)).trans (Gr.new hr)) ⟨r, u, rfl, upd_same, look_old upd_same hr⟩ ⟨hnd, fun s hs' => ?_⟩ ?_ ?_
      · rcases List.mem_append.mp ((hs s).mp hs') with z | z
        · exact oa.2 s z
        · exact ob.2 s z
      · refine ⟨rfl, fun v h => ?_⟩
        obtain ⟨s, e, hs'⟩ := h
        exact ⟨s, e, (hs s).mpr (List.mem_append_left _ hs')⟩
      · refine ⟨rfl, fun v h => ?_⟩
        obtain ⟨s, e, hs'⟩ := h
        exact ⟨s, e, (hs s).mpr (List.mem_append_right _ hs')⟩
    | _ => cases head_kn he
/-! ### single_kind -/
abbrev nm_single_kind : List Str := ["head"]
theorem sc_single_kind : FnScope nm_single_kind ["head"] (defScope (topS 17)) := ⟨rfl, rfl, rfl, by decide +kernel, rfl, by decide +kernel, by decide +kernel⟩
-- slots: 0:head
def spSK : Sp := fun vs H Q _ => ∃ (h : Str), vs = [.str h] ∧ Q (.str (if h = "not" then "flag" else if h = "cut" then "text" else "int")) H
theorem c_single_kind (D : DefAt K mg "single_kind" 17 ["head"]) (B : Blt mg) : Cal P w K mg base CX0 1 "single_kind" ["head"] spSK := by
  refine mk0 D sc_single_kind (fun vs H Q E h => by obtain ⟨v, rfl, _⟩ := h; rfl) ?_
  rintro X Q vs H E ⟨f, cdv, A, outer, s, H0, rfl⟩ hr ⟨h, rfl, q⟩
  refine ⟨_, (pss_cons (ps_if (pt_cmpR op_eq (pv 0) pe_str (nomark _)) (pss_one (ps_ret pe_str)) pss_nil)
      (pss_one (ps_ret (pe_ifExp (pt_cmpR op_eq (pv 0) pe_str (nomark _)) pe_str pe_str)))), ?_⟩
  walk_at "K"
  walk_at "go"
  refine if_s (fun e => ?_) (fun e => ?_)
  · rw [if_pos e] at q
    walk_at "go"
    exact q
  · rw [if_neg e] at q
    walk_at "go"
    refine if_s (fun e => ?_) (fun e => ?_)
    · rw [if_pos e] at q
      walk_at "go"
      exact q
    · rw [if_neg e] at q
      walk_at "go"
      exact q
/-! ### is_large -/
abbrev nm_is_large : List Str := ["bounds"]
theorem sc_is_large : FnScope nm_is_large ["bounds"] (defScope (topS 19)) := ⟨rfl, rfl, rfl, by decide +kernel, rfl, by decide +kernel, by decide +kernel⟩
-- slots: 0:bounds
def spLarge : Sp := fun vs H Q _ => ∃ (x : V) (c : Bd), vs = [x] ∧ BdV H x c ∧ BdPre c ∧ ∀ k H', Gr no H H' → (k = false → BdOk c) → Q (.bl k) H'
theorem c_is_large (D : DefAt K mg "is_large" 19 ["bounds"]) (B : Blt mg) (G : Glo K mg) : Cal P w K mg base CX0 1 "is_large" ["bounds"] spLarge := by
  obtain ⟨t1, gLIMIT⟩ := G.limit
  obtain ⟨t2, gMOST_LENGTH⟩ := G.mlen
  refine mk0 D sc_is_large (fun vs H Q E h => by obtain ⟨v, c, rfl, _⟩ := h; rfl) ?_
  rintro X Q vs H E ⟨f, cdv, A, outer, s, H0, rfl⟩ hr ⟨x, c, rfl, hx, hc, q⟩
  refine ⟨_, (pss_cons (ps_if (pt_cmpR op_eq (pe_ix ix_tup (pv 0) pe_int (fun _ _ => rfl)) pe_str (nomark _)) (pss_one (ps_ret (pe_or (pe_cmpR op_lt (pe_ix ix_tup (pv 0) pe_int (fun _ _ => rfl)) (pe_un un_neg (pe_glob (v := .int 1000000000000000000) rfl gLIMIT ⟨_, rfl⟩)) (nomark _)) (pe_one (pe_cmpR op_gt (pe_ix ix_tup (pv 0) pe_int (fun _ _ => rfl)) (pe_glob (v := .int 1000000000000000000) rfl gLIMIT ⟨_, rfl⟩) (nomark _)))))) pss_nil)
      (pss_one (ps_ret (pe_and (pe_cmpR op_eq (pe_ix ix_tup (pv 0) pe_int (fun _ _ => rfl)) pe_str (nomark _)) (pe_one (pe_cmpR op_gt (pe_ix ix_tup (pv 0) pe_int (fun _ _ => rfl)) (pe_glob (v := .int 200) rfl gMOST_LENGTH ⟨_, rfl⟩) (nomark _))))))), ?_⟩
  walk_at "K"
  cases c with
  | int lo hi =>
    obtain ⟨a, rfl, h1⟩ := hx
    walk_at "go"
    refine if_dec (fun c1 => ?_) (fun c1 => ?_)
    · exact q _ _ (Gr.refl _ _) (fun z => by cases z)
    · walk_at "go"
      refine q _ _ (Gr.refl _ _) (fun z => ?_)
      have c2 := of_decide_eq_false z
      exact ⟨by omega, hc, by omega⟩
  | flag =>
    obtain ⟨a, rfl, h1⟩ := hx
    walk_at "go"
    exact q _ _ (Gr.refl _ _) (fun _ => trivial)
  | word ws =>
    obtain ⟨a, b, rfl, h1, h2⟩ := hx
    walk_at "go"
    exact q _ _ (Gr.refl _ _) (fun _ => hc)
  | text n =>
    obtain ⟨a, rfl, h1⟩ := hx
    walk_at "go"
    refine q _ _ (Gr.refl _ _) (fun z => ?_)
    have c2 := of_decide_eq_false z
    exact ⟨hc.1, by omega⟩
end
end Snk
set_option Elab.async false
set_option linter.all false
set_option maxRecDepth 100000
set_option maxHeartbeats 4000000
namespace Snk
open PySem PySem.Spec PyProof.Rows L2
local macro_rules | `(tactic| walk_at "K") => `(tactic| try simp only [ws_K, ws_P, ws_w, cx_K, cx_P, cx_w])
local macro_rules | `(tactic| walk_at "isi") => `(tactic| first
  | with_reducible refine r_isB (.base (.int _)) kk_int_int ?_ | with_reducible refine r_isB (.base (.int _)) kk_int_bool ?_ | with_reducible refine r_isB (.base (.int _)) kk_int_str ?_ | with_reducible refine r_isB (.base (.int _)) kk_int_tuple ?_ | with_reducible refine r_isB (.base (.bl _)) kk_bool_int ?_ | with_reducible refine r_isB (.base (.bl _)) kk_bool_bool ?_ | with_reducible refine r_isB (.base (.bl _)) kk_bool_str ?_ | with_reducible refine r_isB (.base (.bl _)) kk_bool_tuple ?_ | with_reducible refine r_isB (.base (.str _)) kk_str_int ?_ | with_reducible refine r_isB (.base (.str _)) kk_str_bool ?_ | with_reducible refine r_isB (.base (.str _)) kk_str_str ?_ | with_reducible refine r_isB (.base (.str _)) kk_str_tuple ?_ | with_reducible refine r_isB (.base .non) kk_NoneType_int ?_ | with_reducible refine r_isB (.base .non) kk_NoneType_bool ?_ | with_reducible refine r_isB (.base .non) kk_NoneType_str ?_ | with_reducible refine r_isB (.base .non) kk_NoneType_tuple ?_ | with_reducible refine r_isB (.base (.tup (by assumption))) kk_tuple_int ?_ | with_reducible refine r_isB (.base (.tup (by assumption))) kk_tuple_bool ?_ | with_reducible refine r_isB (.base (.tup (by assumption))) kk_tuple_str ?_ | with_reducible refine r_isB (.base (.tup (by assumption))) kk_tuple_tuple ?_)
local macro_rules | `(tactic| tb_rel) => `(tactic| first | assumption | exact upd_same | ((refine look_old ?hl ?hn); (case hn => assumption); (case hl => tb_rel)) | ((refine Gr.tup (by assumption) _ _ ?hl); (case hl => tb_rel)))
local macro_rules | `(tactic| tb_start) => `(tactic| first
  | ((with_reducible refine' r_var ?hvar ?_); (case hvar => exact rfl))
  | with_reducible refine r_c ?_ | with_reducible refine r_op ?_ | with_reducible refine r_un ?_ | with_reducible refine r_chain ?_ | with_reducible refine r_tup ?_ | with_reducible refine r_lst ?_ | with_reducible refine r_cons ?_ | with_reducible refine r_nil ?_ | with_reducible refine r_cb ?_ | with_reducible refine r_call ?_ | with_reducible refine r_bm ?_ | with_reducible refine r_bm0 ?_ | with_reducible refine r_sl ?_ | with_reducible refine r_test ?_ | with_reducible refine r_tb ?_ | with_reducible refine r_tand ?_ | with_reducible refine r_tor ?_ | with_reducible refine r_tnot ?_ | with_reducible refine r_andV ?_ | with_reducible refine r_orV ?_ | with_reducible refine r_notV ?_ | with_reducible refine r_ife ?_ | with_reducible refine s_seq ?_ | with_reducible refine s_nextM ?_ | with_reducible refine s_next ?_ | with_reducible refine s_ret ?_ | with_reducible refine s_if ?_ | with_reducible refine s_asg ?_ | with_reducible refine s_drop ?_ | with_reducible refine s_cont ?_ | with_reducible refine s_break ?_ | with_reducible refine g_name ?_ | with_reducible refine r_I0 ?_ | with_reducible refine r_U ?_ | with_reducible refine k_bl2 ?_ | with_reducible refine r_part ?_ | with_reducible refine r_nopart ?_ | with_reducible refine if_tt ?_ | with_reducible refine if_ff ?_ | with_reducible refine if_nf ?_ | with_reducible refine if_nt ?_
  | ((with_reducible refine' r_eq ?hsc ?_); (case hsc => exact rfl)) | ((with_reducible refine' r_ne ?hsc ?_); (case hsc => exact rfl)) | ((with_reducible refine isi_g ?_); walk_at "isi") | (first | ((with_reducible refine' r_ixT ?hix ?eix ?_); (case hix => tb_rel); (case eix => first | exact at0 | exact at1 | exact at2 | rfl))) | ((with_reducible refine' if_t ?hc ?_); (case hc => decide +kernel)) | ((with_reducible refine' if_f ?hc ?_); (case hc => decide +kernel)))
local macro_rules | `(tactic| walk_at "go") => `(tactic| repeat tb_start)
local macro_rules | `(tactic| walk_at "gr") => `(tactic| first | exact Gr.refl _ _ | assumption | ((refine Gr.trans ?ga (Gr.new ?gn)); (case gn => assumption); (case ga => walk_at "gr")) | ((refine' Gr.trans ?ga ?gb); (case gb => assumption); (case ga => walk_at "gr")))
local macro_rules | `(tactic| walk_at "go2") => `(tactic| repeat (first | tb_start | (((with_reducible refine' And.intro ?hz ?_); (case hz => (refine sz10 ?_; first | decide | (simp; done) | (simp; omega))); intro p hp)) | (first | ((with_reducible refine' r_inT ?hs ?hf ?ha ?_); (case hs => first | assumption | exact SqT.of (by tb_rel)); (case hf => rfl); (case ha => first | rfl | decide +kernel | exact flat_strs)) | ((with_reducible refine' r_niT ?hs ?hf ?ha ?_); (case hs => first | assumption | exact SqT.of (by tb_rel)); (case hf => rfl); (case ha => first | rfl | decide +kernel | exact flat_strs)))))
section
variable {P : Program} {w : World} {K : PySem.W.Frag} {mg : Str → Option Value} {base : Heap}
/-! ### pair_kinds -/
abbrev nm_pair_kinds : List Str := ["head", "a", "b"]
theorem sc_pair_kinds : FnScope nm_pair_kinds ["head", "a", "b"] (defScope (topS 15)) := ⟨rfl, rfl, rfl, by decide +kernel, rfl, by decide +kernel, by decide +kernel⟩
-- slots: 0:head 1:a 2:b
def spPairK : Sp := fun vs H Q _ => ∃ (o : POp) (x y : V) (a b : Bd), vs = [.str o.nm, x, y] ∧ BdV H x a ∧ BdV H y b ∧ ∀ k H', Gr no H H' → (k = true → PairK o a b) → Q (.bl k) H'
theorem str_bl {a b : Str} : decide (V.str a = V.str b) = decide (a = b) := by
  by_cases h : a = b
  · subst h; simp
  · rw [decide_eq_false h, decide_eq_false (fun z => h (by cases z; rfl))]
theorem isInt_of {a : Bd} (h : decide (V.str a.head = V.str "int") = true) : IsInt a := by
  have e : a.head = (Bd.int 0 0).head := by have := of_decide_eq_true h; cases a <;> first | rfl | exact V.str.inj this
  cases a <;> first | trivial | cases head_kn e
theorem isFlag_of {a : Bd} (h : decide (V.str a.head = V.str "flag") = true) : IsFlag a := by
  have e : a.head = Bd.flag.head := by have := of_decide_eq_true h; cases a <;> first | rfl | exact V.str.inj this
  cases a <;> first | trivial | cases head_kn e
theorem isText_of {a : Bd} (h : decide (V.str a.head = V.str "text") = true) : IsText a := by
  have e : a.head = (Bd.text 0).head := by have := of_decide_eq_true h; cases a <;> first | rfl | exact V.str.inj this
  cases a <;> first | trivial | cases head_kn e
theorem isInt_no {a : Bd} (h : IsInt a) : decide (V.str a.head = V.str "int") = true := by
  cases a <;> first | (exact decide_eq_true rfl) | cases h
set_option maxHeartbeats 16000000 in
theorem c_pair_kinds (D : DefAt K mg "pair_kinds" 15 ["head", "a", "b"]) (B : Blt mg) : Cal P w K mg base CX0 1 "pair_kinds" ["head", "a", "b"] spPairK := by
  refine mk0 D sc_pair_kinds (fun vs H Q E h => by obtain ⟨v, b, _, _, _, rfl, _⟩ := h; rfl) ?_
  rintro X Q vs H E ⟨f, cdv, A, outer, s, H0, rfl⟩ hr ⟨o, x, y, a, b, rfl, hx, hy, q⟩
  refine ⟨_, (pss_cons (ps_if (pt_cmpR op_in_seq (pv 0) (pe_tup (pa_cons pe_str (pa_cons pe_str (pa_cons pe_str (pa_cons pe_str (pa_cons pe_str (pa_cons pe_str pa_nil))))))) (by rfl)) (pss_one (ps_ret (pe_and (pe_cmpR op_eq (pe_ix ix_tup (pv 1) pe_int (fun _ _ => rfl)) pe_str (nomark _)) (pe_one (pe_cmpR op_eq (pe_ix ix_tup (pv 2) pe_int (fun _ _ => rfl)) pe_str (nomark _)))))) pss_nil)
      (pss_cons (ps_if (pt_cmpR op_in_seq (pv 0) (pe_tup (pa_cons pe_str (pa_cons pe_str pa_nil))) (by rfl)) (pss_one (ps_ret (pe_and (pe_cmpR op_eq (pe_ix ix_tup (pv 1) pe_int (fun _ _ => rfl)) pe_str (nomark _)) (pe_one (pe_cmpR op_eq (pe_ix ix_tup (pv 2) pe_int (fun _ _ => rfl)) pe_str (nomark _)))))) pss_nil)
      (pss_cons (ps_if (pt_cmpR op_eq (pv 0) pe_str (nomark _)) (pss_one (ps_ret (pe_and (pe_cmpR op_eq (pe_ix ix_tup (pv 1) pe_int (fun _ _ => rfl)) pe_str (nomark _)) (pe_one (pe_cmpR op_eq (pe_ix ix_tup (pv 2) pe_int (fun _ _ => rfl)) pe_str (nomark _)))))) pss_nil)
      (pss_one (ps_ret (pe_cmpR op_eq (pe_ix ix_tup (pv 1) pe_int (fun _ _ => rfl)) (pe_ix ix_tup (pv 2) pe_int (fun _ _ => rfl)) (nomark _))))))), ?_⟩
  walk_at "K"
  obtain ⟨p1, r1, rfl, h1⟩ := hx.hd
  obtain ⟨p2, r2, rfl, h2⟩ := hy.hd
  cases o with
  | add =>
    walk_at "go2"
    refine if_dec (fun c1 => ?_) (fun c1 => ?_)
    · walk_at "go2"
      exact q _ _ (by walk_at "gr") (fun c2 => ⟨isInt_of (decide_eq_true c1), isInt_of c2⟩)
    · exact q _ _ (by walk_at "gr") (fun z => by cases z)
  | sub =>
    walk_at "go2"
    refine if_dec (fun c1 => ?_) (fun c1 => ?_)
    · walk_at "go2"
      exact q _ _ (by walk_at "gr") (fun c2 => ⟨isInt_of (decide_eq_true c1), isInt_of c2⟩)
    · exact q _ _ (by walk_at "gr") (fun z => by cases z)
  | mul =>
    walk_at "go2"
    refine if_dec (fun c1 => ?_) (fun c1 => ?_)
    · walk_at "go2"
      exact q _ _ (by walk_at "gr") (fun c2 => ⟨isInt_of (decide_eq_true c1), isInt_of c2⟩)
    · exact q _ _ (by walk_at "gr") (fun z => by cases z)
  | mn =>
    walk_at "go2"
    refine if_dec (fun c1 => ?_) (fun c1 => ?_)
    · walk_at "go2"
      exact q _ _ (by walk_at "gr") (fun c2 => ⟨isInt_of (decide_eq_true c1), isInt_of c2⟩)
    · exact q _ _ (by walk_at "gr") (fun z => by cases z)
  | mx =>
    walk_at "go2"
    refine if_dec (fun c1 => ?_) (fun c1 => ?_)
    · walk_at "go2"
      exact q _ _ (by walk_at "gr") (fun c2 => ⟨isInt_of (decide_eq_true c1), isInt_of c2⟩)
    · exact q _ _ (by walk_at "gr") (fun z => by cases z)
  | less =>
    walk_at "go2"
    refine if_dec (fun c1 => ?_) (fun c1 => ?_)
    · walk_at "go2"
      exact q _ _ (by walk_at "gr") (fun c2 => ⟨isInt_of (decide_eq_true c1), isInt_of c2⟩)
    · exact q _ _ (by walk_at "gr") (fun z => by cases z)
  | same =>
    walk_at "go2"
    refine q _ _ (by walk_at "gr") (fun c => ?_)
    rw [str_bl] at c
    exact of_decide_eq_true (p := a.head = b.head) c
  | and_ =>
    walk_at "go2"
    refine if_dec (fun c1 => ?_) (fun c1 => ?_)
    · walk_at "go2"
      exact q _ _ (by walk_at "gr") (fun c2 => ⟨isFlag_of (decide_eq_true c1), isFlag_of c2⟩)
    · exact q _ _ (by walk_at "gr") (fun z => by cases z)
  | or_ =>
    walk_at "go2"
    refine if_dec (fun c1 => ?_) (fun c1 => ?_)
    · walk_at "go2"
      exact q _ _ (by walk_at "gr") (fun c2 => ⟨isFlag_of (decide_eq_true c1), isFlag_of c2⟩)
    · exact q _ _ (by walk_at "gr") (fun z => by cases z)
  | join =>
    walk_at "go2"
    refine if_dec (fun c1 => ?_) (fun c1 => ?_)
    · walk_at "go2"
      exact q _ _ (by walk_at "gr") (fun c2 => ⟨isText_of (decide_eq_true c1), isText_of c2⟩)
    · exact q _ _ (by walk_at "gr") (fun z => by cases z)
end
end Snk
set_option Elab.async false
set_option linter.all false
set_option maxRecDepth 100000
set_option maxHeartbeats 4000000
namespace Snk
open PySem PySem.Spec PyProof.Rows L2
local macro_rules | `(tactic| walk_at "K") => `(tactic| try simp only [ws_K, ws_P, ws_w, cx_K, cx_P, cx_w])
local macro_rules | `(tactic| walk_at "isi") => `(tactic| first
  | with_reducible refine r_isB (.base (.int _)) kk_int_int ?_ | with_reducible refine r_isB (.base (.int _)) kk_int_bool ?_ | with_reducible refine r_isB (.base (.int _)) kk_int_str ?_ | with_reducible refine r_isB (.base (.int _)) kk_int_tuple ?_ | with_reducible refine r_isB (.base (.bl _)) kk_bool_int ?_ | with_reducible refine r_isB (.base (.bl _)) kk_bool_bool ?_ | with_reducible refine r_isB (.base (.bl _)) kk_bool_str ?_ | with_reducible refine r_isB (.base (.bl _)) kk_bool_tuple ?_ | with_reducible refine r_isB (.base (.str _)) kk_str_int ?_ | with_reducible refine r_isB (.base (.str _)) kk_str_bool ?_ | with_reducible refine r_isB (.base (.str _)) kk_str_str ?_ | with_reducible refine r_isB (.base (.str _)) kk_str_tuple ?_ | with_reducible refine r_isB (.base .non) kk_NoneType_int ?_ | with_reducible refine r_isB (.base .non) kk_NoneType_bool ?_ | with_reducible refine r_isB (.base .non) kk_NoneType_str ?_ | with_reducible refine r_isB (.base .non) kk_NoneType_tuple ?_ | with_reducible refine r_isB (.base (.tup (by assumption))) kk_tuple_int ?_ | with_reducible refine r_isB (.base (.tup (by assumption))) kk_tuple_bool ?_ | with_reducible refine r_isB (.base (.tup (by assumption))) kk_tuple_str ?_ | with_reducible refine r_isB (.base (.tup (by assumption))) kk_tuple_tuple ?_)
local macro_rules | `(tactic| tb_rel) => `(tactic| first | assumption | exact upd_same | ((refine look_old ?hl ?hn); (case hn => assumption); (case hl => tb_rel)) | ((refine Gr.tup (by assumption) _ _ ?hl); (case hl => tb_rel)))
local macro_rules | `(tactic| tb_start) => `(tactic| first
  | ((with_reducible refine' r_var ?hvar ?_); (case hvar => exact rfl))
  | with_reducible refine r_c ?_ | with_reducible refine r_op ?_ | with_reducible refine r_un ?_ | with_reducible refine r_chain ?_ | with_reducible refine r_tup ?_ | with_reducible refine r_lst ?_ | with_reducible refine r_cons ?_ | with_reducible refine r_nil ?_ | with_reducible refine r_cb ?_ | with_reducible refine r_call ?_ | with_reducible refine r_bm ?_ | with_reducible refine r_bm0 ?_ | with_reducible refine r_sl ?_ | with_reducible refine r_test ?_ | with_reducible refine r_tb ?_ | with_reducible refine r_tand ?_ | with_reducible refine r_tor ?_ | with_reducible refine r_tnot ?_ | with_reducible refine r_andV ?_ | with_reducible refine r_orV ?_ | with_reducible refine r_notV ?_ | with_reducible refine r_ife ?_ | with_reducible refine s_seq ?_ | with_reducible refine s_nextM ?_ | with_reducible refine s_next ?_ | with_reducible refine s_ret ?_ | with_reducible refine s_if ?_ | with_reducible refine s_asg ?_ | with_reducible refine s_drop ?_ | with_reducible refine s_cont ?_ | with_reducible refine s_break ?_ | with_reducible refine g_name ?_ | with_reducible refine r_I0 ?_ | with_reducible refine r_U ?_ | with_reducible refine k_bl2 ?_ | with_reducible refine r_part ?_ | with_reducible refine r_nopart ?_ | with_reducible refine if_tt ?_ | with_reducible refine if_ff ?_ | with_reducible refine if_nf ?_ | with_reducible refine if_nt ?_
  | ((with_reducible refine' r_eq ?hsc ?_); (case hsc => exact rfl)) | ((with_reducible refine' r_ne ?hsc ?_); (case hsc => exact rfl)) | ((with_reducible refine isi_g ?_); walk_at "isi") | (first | ((with_reducible refine' r_ixT ?hix ?eix ?_); (case hix => tb_rel); (case eix => first | exact at0 | exact at1 | exact at2 | rfl))) | ((with_reducible refine' if_t ?hc ?_); (case hc => decide +kernel)) | ((with_reducible refine' if_f ?hc ?_); (case hc => decide +kernel)))
local macro_rules | `(tactic| walk_at "go") => `(tactic| repeat tb_start)
local macro_rules | `(tactic| walk_at "gr") => `(tactic| first | exact Gr.refl _ _ | assumption | ((refine Gr.trans ?ga (Gr.new ?gn)); (case gn => assumption); (case ga => walk_at "gr")) | ((refine' Gr.trans ?ga ?gb); (case gb => assumption); (case ga => walk_at "gr")))
local macro_rules | `(tactic| walk_at "go2") => `(tactic| repeat (first | tb_start | (((with_reducible refine' And.intro ?hz ?_); (case hz => (refine sz10 ?_; first | decide | (simp; done) | (simp; omega))); intro p hp)) | (first | ((with_reducible refine' r_inT ?hs ?hf ?ha ?_); (case hs => first | assumption | exact SqT.of (by tb_rel)); (case hf => rfl); (case ha => first | rfl | decide +kernel | exact flat_strs)) | ((with_reducible refine' r_niT ?hs ?hf ?ha ?_); (case hs => first | assumption | exact SqT.of (by tb_rel)); (case hf => rfl); (case ha => first | rfl | decide +kernel | exact flat_strs)))))
section
variable {P : Program} {w : World} {K : PySem.W.Frag} {mg : Str → Option Value} {base : Heap}
theorem k_int {i : Int} {A : Int → Prop} (q : A i) : ∃ k', V.int i = .int k' ∧ A k' := ⟨i, rfl, q⟩
theorem Gr.drop {H H' : Hp} {L : Addr} (g : Gr (fun b => b = L) H H') (h : H L = none) : Gr no H H' :=
  ⟨fun b o e n t => g.keep b o e (fun z => by rw [z, h] at e; cases e) t, g.tup, g.tab, g.free⟩
/-! ### rules within a comprehension's block -/
section
variable {X : Cx} {s : Shared} {H : Hp} {sc : Scope} {ce : Env} {fp : List Addr}
theorem ix_tupB : IxR (X.blk s H sc ce fp) (rIxT X.K) := ix_tup
theorem sl_tupB : SlR (X.blk s H sc ce fp) (rSlA X.K) := sl_tupA
theorem pi_tupB {tg l : Expr} {tl : TE} (hl : PE (X.blk s H sc ce fp) l tl) : PI (X.blk s H sc ce fp) tg l (iTup X.K tl) := pi_tup hl
end
theorem lc_in {K : PySem.W.Frag} {b : Addr} {ys : List V} {S : V → Hp → (Hp → Prop) → Prop} {Nx : Hp → Prop} {H4 : Hp} (Pv : Nat → Hp → Prop) (h0 : Pv 0 H4) (hl : ∀ j H, j ≤ ys.length → Pv j H → SqT K H b ys)
    (hs : ∀ j x H, ys[j]? = some x → Pv j H → S x H (Pv (j + 1))) (hd : ∀ H, Pv ys.length H → Nx H) :
    ∃ W1 : Nat → Nat → Hp → Prop, (∃ m, W1 0 m H4) ∧ ∀ j k H, W1 j k H → ((Itt K b).stop j H ∧ Nx H) ∨ ((Itt K b).go j H ∧ ∃ Nx1 : Hp → Prop, (∀ H', Nx1 H' → ∃ k', k' < k ∧ W1 (j + 1) k' H') ∧ ∀ x H', (Itt K b).yld j H x H' → S x H' Nx1) := by
  refine ⟨fun i m H => m = ys.length - i ∧ i ≤ ys.length ∧ Pv i H, ⟨ys.length, by simp, Nat.zero_le _, h0⟩, ?_⟩
  rintro i m H ⟨rfl, hi, p⟩
  have q := hl i H hi p
  by_cases hlt : i < ys.length
  · refine .inr ⟨⟨ys, ys[i], q, by simp [hlt]⟩, Pv (i + 1), fun H' p' => ⟨ys.length - (i + 1), by omega, rfl, hlt, p'⟩, fun x H' y => ?_⟩
    obtain ⟨e, y⟩ := y
    subst e
    exact hs i x _ (y ys q) p
  · have e : i = ys.length := by omega
    subst e
    exact .inl ⟨⟨ys, q, Nat.le_refl _⟩, hd H p⟩
theorem r_slT1 {K : PySem.W.Frag} {H : Hp} {p : Addr} {x : V} {xs : List V} {Q : VK} (h : H p = some (.tup (x :: xs))) (q : ∀ p', H p' = none → Q (.ref p') (upd H p' (.tup xs))) : rSlA K (.ref p) (some 1) none H Q := by
  have e : HT.sIx (x :: xs).length 0 (some 1) = 1 := by rw [show (1 : Int) = ((1 : Nat) : Int) from rfl, HT.sIx_nat]; simp
  refine ⟨p, x :: xs, rfl, SqT.of h, fun z => ?_, fun _ p' hp' => ?_⟩
  · rw [e] at z; exact absurd z.1 (by decide)
  · have e2 : cutV (x :: xs) (some 1) none = xs := by
      unfold cutV
      rw [e, HT.sIx_none]
      simp
    rw [e2]; exact q p' hp'
/-! ### pair_bounds -/
abbrev nm_pair_bounds : List Str := ["head", "a", "b", "ends", "x", "y"]
theorem sc_pair_bounds : FnScope nm_pair_bounds ["head", "a", "b"] (defScope (topS 16)) := ⟨rfl, rfl, rfl, by decide +kernel, rfl, by decide +kernel, by decide +kernel⟩
-- slots: 0:head 1:a 2:b 3:ends 4:x 5:y
def spPairB : Sp := fun vs H Q _ => ∃ (o : POp) (x y : V) (a b : Bd), vs = [.str o.nm, x, y] ∧ BdV H x a ∧ BdV H y b ∧ BdOk a ∧ BdOk b ∧ PairK o a b ∧ ∀ H' u c, Gr no H H' → BdV H' u c → BdPre c → PairSnd o a b c → Q u H'
theorem isInt_ex : ∀ {a : Bd}, IsInt a → ∃ lo hi, a = .int lo hi
  | .int lo hi, _ => ⟨lo, hi, rfl⟩
theorem isText_ex : ∀ {a : Bd}, IsText a → ∃ n, a = .text n
  | .text n, _ => ⟨n, rfl⟩
theorem isFlag_ex : ∀ {a : Bd}, IsFlag a → a = .flag
  | .flag, _ => rfl
theorem scal_gam {a b : Bd} {v w : V} (h : a.head = b.head) (g : Gam a v) (k : Gam b w) : scal v w = true := by
  cases a with
  | int lo hi =>
    cases b with
    | int l2 h2 => obtain ⟨i, rfl, _⟩ := g; obtain ⟨j, rfl, _⟩ := k; rfl
    | _ => cases head_kn h
  | flag =>
    cases b with
    | flag => obtain ⟨i, rfl⟩ := g; obtain ⟨j, rfl⟩ := k; rfl
    | _ => cases head_kn h
  | word ws =>
    cases b with
    | word zs => obtain ⟨i, rfl, _⟩ := g; obtain ⟨j, rfl, _⟩ := k; rfl
    | _ => cases head_kn h
  | text n =>
    cases b with
    | text m => obtain ⟨i, rfl, _⟩ := g; obtain ⟨j, rfl, _⟩ := k; rfl
    | _ => cases head_kn h
theorem len_app (s t : Str) : (s ++ t).length = s.length + t.length := by
  first | rfl | exact Array.size_append | exact Str.length_append | simp
set_option maxHeartbeats 16000000 in
theorem c_pair_bounds (D : DefAt K mg "pair_bounds" 16 ["head", "a", "b"]) (B : Blt mg) : Cal P w K mg base CX0 1 "pair_bounds" ["head", "a", "b"] spPairB := by
  refine mk0 D sc_pair_bounds (fun vs H Q E h => by obtain ⟨v, b, _, _, _, rfl, _⟩ := h; rfl) ?_
  rintro X Q vs H E ⟨f, cdv, A, outer, s, H0, rfl⟩ hr ⟨o, x, y, a, b, rfl, hx, hy, oa, ob, hk, q⟩
  refine ⟨_, (pss_cons (ps_if (pt_cmpR op_eq (pv 0) pe_str (nomark _)) (pss_one (ps_ret (pe_tup (pa_cons pe_str (pa_cons (pe_op op_add (pe_ix ix_tup (pv 1) pe_int (fun _ _ => rfl)) (pe_ix ix_tup (pv 2) pe_int (fun _ _ => rfl))) (pa_cons (pe_op op_add (pe_ix ix_tup (pv 1) pe_int (fun _ _ => rfl)) (pe_ix ix_tup (pv 2) pe_int (fun _ _ => rfl))) pa_nil)))))) pss_nil)
      (pss_cons (ps_if (pt_cmpR op_eq (pv 0) pe_str (nomark _)) (pss_one (ps_ret (pe_tup (pa_cons pe_str (pa_cons (pe_op op_sub (pe_ix ix_tup (pv 1) pe_int (fun _ _ => rfl)) (pe_ix ix_tup (pv 2) pe_int (fun _ _ => rfl))) (pa_cons (pe_op op_sub (pe_ix ix_tup (pv 1) pe_int (fun _ _ => rfl)) (pe_ix ix_tup (pv 2) pe_int (fun _ _ => rfl))) pa_nil)))))) pss_nil)
      (pss_cons (ps_if (pt_cmpR op_eq (pv 0) pe_str (nomark _)) (pss_cons (ps_setLc2 (i := 3) (own := [("x", 4), ("y", 5)]) (g := gName 4) (g1 := gName 5) (vs1 := [5]) rfl sc_pair_bounds.nd rfl rfl (sw_true rfl rfl rfl (by decide +kernel)) (pi_tup (pe_slice sl_tupA (pv 1) (po_some pe_int) po_none)) (blkOk_by (own := [("x", 4), ("y", 5)]) (N := nm_pair_bounds) (sc := defScope (topS 16)) (by decide +kernel)) (by decide) (fun _ _ _ _ _ => (pg_name (i := 4) sc_pair_bounds.nd rfl (Or.inl rfl))) (fun _ _ _ _ _ => pts_nil) (fun _ _ _ _ _ => (pi_tupB (pe_slice sl_tupB (pv 2) (po_some pe_int) po_none))) (fun _ _ _ _ _ => (pg_name (i := 5) sc_pair_bounds.nd rfl (Or.inl rfl))) (fun _ _ _ _ _ => pts_nil) (fun _ _ _ _ _ => (pe_op op_mul (pv 4) (pv 5))))
      (pss_one (ps_ret (pe_tup (pa_cons pe_str (pa_cons (pe_callB (cr_min rfl) rfl B.min_ (by decide +kernel) (pa_cons (pv 3) pa_nil)) (pa_cons (pe_callB (cr_max rfl) rfl B.max_ (by decide +kernel) (pa_cons (pv 3) pa_nil)) pa_nil))))))) pss_nil)
      (pss_cons (ps_if (pt_cmpR op_eq (pv 0) pe_str (nomark _)) (pss_one (ps_ret (pe_tup (pa_cons pe_str (pa_cons (pe_callB (call_min2 rfl) rfl B.min_ (by decide +kernel) (pa_cons (pe_ix ix_tup (pv 1) pe_int (fun _ _ => rfl)) (pa_cons (pe_ix ix_tup (pv 2) pe_int (fun _ _ => rfl)) pa_nil))) (pa_cons (pe_callB (call_min2 rfl) rfl B.min_ (by decide +kernel) (pa_cons (pe_ix ix_tup (pv 1) pe_int (fun _ _ => rfl)) (pa_cons (pe_ix ix_tup (pv 2) pe_int (fun _ _ => rfl)) pa_nil))) pa_nil)))))) pss_nil)
      (pss_cons (ps_if (pt_cmpR op_eq (pv 0) pe_str (nomark _)) (pss_one (ps_ret (pe_tup (pa_cons pe_str (pa_cons (pe_callB (call_max2 rfl) rfl B.max_ (by decide +kernel) (pa_cons (pe_ix ix_tup (pv 1) pe_int (fun _ _ => rfl)) (pa_cons (pe_ix ix_tup (pv 2) pe_int (fun _ _ => rfl)) pa_nil))) (pa_cons (pe_callB (call_max2 rfl) rfl B.max_ (by decide +kernel) (pa_cons (pe_ix ix_tup (pv 1) pe_int (fun _ _ => rfl)) (pa_cons (pe_ix ix_tup (pv 2) pe_int (fun _ _ => rfl)) pa_nil))) pa_nil)))))) pss_nil)
      (pss_cons (ps_if (pt_cmpR op_eq (pv 0) pe_str (nomark _)) (pss_one (ps_ret (pe_tup (pa_cons pe_str (pa_cons (pe_op op_add (pe_ix ix_tup (pv 1) pe_int (fun _ _ => rfl)) (pe_ix ix_tup (pv 2) pe_int (fun _ _ => rfl))) pa_nil))))) pss_nil)
      (pss_one (ps_ret (pe_tup (pa_cons pe_str pa_nil)))))))))), ?_⟩
  walk_at "K"
  cases o with
  | add =>
    obtain ⟨⟨lo, hi, rfl⟩, lo2, hi2, rfl⟩ := And.intro (isInt_ex hk.1) (isInt_ex hk.2)
    obtain ⟨p1, rfl, h1⟩ := hx
    obtain ⟨p2, rfl, h2⟩ := hy
    walk_at "go2"
    refine q _ _ (.int _ _) (by walk_at "gr") ⟨_, rfl, upd_same⟩ ?_ ?_
    · have := oa.2.1; have := ob.2.1
      show _ ≤ _; omega
    · rintro v w ⟨i, rfl, i1, i2⟩ ⟨j, rfl, j1, j2⟩
      exact ⟨_, .add, _, rfl, by omega, by omega⟩
  | sub =>
    obtain ⟨⟨lo, hi, rfl⟩, lo2, hi2, rfl⟩ := And.intro (isInt_ex hk.1) (isInt_ex hk.2)
    obtain ⟨p1, rfl, h1⟩ := hx
    obtain ⟨p2, rfl, h2⟩ := hy
    walk_at "go2"
    refine q _ _ (.int _ _) (by walk_at "gr") ⟨_, rfl, upd_same⟩ ?_ ?_
    · have := oa.2.1; have := ob.2.1
      show _ ≤ _; omega
    · rintro v w ⟨i, rfl, i1, i2⟩ ⟨j, rfl, j1, j2⟩
      exact ⟨_, .sub, _, rfl, by omega, by omega⟩
  | mul =>
    obtain ⟨⟨lo, hi, rfl⟩, lo2, hi2, rfl⟩ := And.intro (isInt_ex hk.1) (isInt_ex hk.2)
    obtain ⟨p1, rfl, h1⟩ := hx
    obtain ⟨p2, rfl, h2⟩ := hy
    walk_at "go2"
    simp only [tLc2, iTup, gName, tYes]
    refine r_sl ?_
    walk_at "go2"
    refine k_int ?_
    walk_at "go2"
    refine r_slT1 h1 fun r1 hr1 => ?_
    refine ⟨r1, rfl, ⟨_, SqT.of upd_same⟩, fun L hL => ?_⟩
    have k1 : ∀ {H' : Hp}, Gr (fun b => b = L) (upd H r1 (.tup [.int lo, .int hi])) H' → H' r1 = some (.tup [.int lo, .int hi]) := fun g => g.tup _ _ upd_same
    have k2 : ∀ {H' : Hp}, Gr (fun b => b = L) (upd H r1 (.tup [.int lo, .int hi])) H' → H' p2 = some (.tup [.str "int", .int lo2, .int hi2]) := fun g => g.tup _ _ (look_old h2 hr1)
    refine lc_in (ys := [.int lo, .int hi]) (fun i H' => Gr (fun b => b = L) (upd H r1 (.tup [.int lo, .int hi])) H' ∧ H' L = some (.lst ((([lo, hi] : List Int).take i).flatMap fun x => [V.int (x * lo2), V.int (x * hi2)]))) ⟨Gr.own (Gr.refl _ _) hL, upd_same⟩ (fun i H' _ p => SqT.of (k1 p.1)) ?_ ?_
    · intro i x H' hx p
      obtain ⟨z, rfl, hz⟩ : ∃ z, x = V.int z ∧ ([lo, hi] : List Int)[i]? = some z := by
        match i, hx with
        | 0, hx => exact ⟨lo, by simpa using hx.symm, rfl⟩
        | 1, hx => exact ⟨hi, by simpa using hx.symm, rfl⟩
        | i + 2, hx => simp at hx
      have hzr : -1000000000000000000 ≤ z ∧ z ≤ 1000000000000000000 := by
        obtain ⟨o1, o2, o3⟩ := oa
        have := List.mem_of_getElem? hz
        simp only [List.mem_cons, List.not_mem_nil, or_false] at this
        rcases this with rfl | rfl <;> omega
      have il2 : i < 2 := by
        have := (List.getElem?_eq_some_iff.mp hz).1
        simpa using this
      refine ⟨rfl, ?_⟩
      refine if_pos trivial |>.mpr ?_
      refine r_sl ?_
      walk_at "go2"
      refine k_int ?_
      walk_at "go2"
      refine r_slT1 (k2 p.1) fun r2 hr2 => ?_
      refine ⟨r2, rfl, ⟨_, SqT.of upd_same⟩, ?_⟩
      refine lc_in (ys := [.int lo2, .int hi2]) (fun j H2 => Gr (fun b => b = L) (upd H r1 (.tup [.int lo, .int hi])) H2 ∧ H2 r2 = some (.tup [.int lo2, .int hi2]) ∧ H2 L = some (.lst (((([lo, hi] : List Int).take i).flatMap fun x => [V.int (x * lo2), V.int (x * hi2)]) ++ (([lo2, hi2] : List Int).take j).map fun y => V.int (z * y)))) ⟨p.1.trans (Gr.new hr2), upd_same, by rw [look_old p.2 hr2]; simp⟩ (fun j H2 _ p => SqT.of p.2.1) ?_ ?_
      · intro j y H2 hy p
        obtain ⟨y, rfl, hyz⟩ : ∃ z, y = V.int z ∧ ([lo2, hi2] : List Int)[j]? = some z := by
          match j, hy with
          | 0, hx => exact ⟨lo2, by simpa using hx.symm, rfl⟩
          | 1, hx => exact ⟨hi2, by simpa using hx.symm, rfl⟩
          | i + 2, hx => simp at hx
        refine ⟨rfl, ?_⟩
        refine if_pos trivial |>.mpr ?_
        walk_at "go2"
        have hyr : -1000000000000000000 ≤ y ∧ y ≤ 1000000000000000000 := by
          obtain ⟨o1, o2, o3⟩ := ob
          have := List.mem_of_getElem? hyz
          simp only [List.mem_cons, List.not_mem_nil, or_false] at this
          rcases this with rfl | rfl <;> omega
        have jl2 : j < 2 := by
          have := (List.getElem?_eq_some_iff.mp hyz).1
          simpa using this
        refine r_I (.inl ⟨by omega, by omega⟩) ?_
        refine ⟨_, p.2.2, sz10 ?_, p.1.trans (Gr.put (x := fun b => b = L) p.2.2 rfl), ?_, ?_⟩
        · rw [List.length_append, List.length_map, List.length_take]
          have : ((([lo, hi] : List Int).take i).flatMap fun x => [V.int (x * lo2), V.int (x * hi2)]).length ≤ 4 := by
            match i, il2 with
            | 0, _ => simp
            | 1, _ => simp
          have := Nat.min_le_left j ([lo2, hi2] : List Int).length
          omega
        · exact (Gr.put (x := fun b => b = L) p.2.2 rfl).tup _ _ p.2.1
        · rw [upd_same, List.append_assoc, List.take_add_one, hyz, List.map_append]
          rfl
      · intro H2 p2
        refine ⟨p2.1, ?_⟩
        rw [p2.2.2, List.take_add_one, hz, List.flatMap_append]
        rfl
    · intro H2 p2
      walk_at "go2"
      refine ⟨L, [lo * lo2, lo * hi2, hi * lo2, hi * hi2], rfl, SqL.of p2.2, by simp, fun m m1 m2 => ?_⟩
      walk_at "go2"
      refine ⟨L, [lo * lo2, lo * hi2, hi * lo2, hi * hi2], rfl, SqL.of p2.2, by simp, fun M M1 M2 => ?_⟩
      walk_at "go2"
      refine q _ _ (.int _ _) ?_ ⟨_, rfl, upd_same⟩ ?_ ?_
      · exact ((Gr.new (o := .tup [.int lo, .int hi]) hr1).trans (p2.1.drop hL)).trans (Gr.new (by assumption))
      · exact m2 _ M1
      · rintro v w ⟨i, rfl, i1, i2⟩ ⟨j, rfl, j1, j2⟩
        have hb := mul_box i1 i2 j1 j2 (m := m) (M := M) (fun z hz => ⟨m2 z hz, M2 z hz⟩)
        exact ⟨_, .mul ⟨by have := oa.1; omega, by have := oa.2.2; omega⟩, _, rfl, hb.1, hb.2⟩
  | mn =>
    obtain ⟨⟨lo, hi, rfl⟩, lo2, hi2, rfl⟩ := And.intro (isInt_ex hk.1) (isInt_ex hk.2)
    obtain ⟨p1, rfl, h1⟩ := hx
    obtain ⟨p2, rfl, h2⟩ := hy
    walk_at "go2"
    refine ⟨_, _, rfl, ?_⟩
    walk_at "go2"
    refine ⟨_, _, rfl, ?_⟩
    walk_at "go2"
    refine q _ _ (.int _ _) (by walk_at "gr") ⟨_, rfl, upd_same⟩ ?_ ?_
    · have := oa.2.1; have := ob.2.1
      show _ ≤ _
      repeat' split
      all_goals omega
    · rintro v w ⟨i, rfl, i1, i2⟩ ⟨j, rfl, j1, j2⟩
      refine ⟨_, .mn, _, rfl, ?_, ?_⟩ <;> (repeat' split) <;> omega
  | mx =>
    obtain ⟨⟨lo, hi, rfl⟩, lo2, hi2, rfl⟩ := And.intro (isInt_ex hk.1) (isInt_ex hk.2)
    obtain ⟨p1, rfl, h1⟩ := hx
    obtain ⟨p2, rfl, h2⟩ := hy
    walk_at "go2"
    refine ⟨_, _, rfl, ?_⟩
    walk_at "go2"
    refine ⟨_, _, rfl, ?_⟩
    walk_at "go2"
    refine q _ _ (.int _ _) (by walk_at "gr") ⟨_, rfl, upd_same⟩ ?_ ?_
    · have := oa.2.1; have := ob.2.1
      show _ ≤ _
      repeat' split
      all_goals omega
    · rintro v w ⟨i, rfl, i1, i2⟩ ⟨j, rfl, j1, j2⟩
      refine ⟨_, .mx, _, rfl, ?_, ?_⟩ <;> (repeat' split) <;> omega
  | less =>
    obtain ⟨⟨lo, hi, rfl⟩, lo2, hi2, rfl⟩ := And.intro (isInt_ex hk.1) (isInt_ex hk.2)
    walk_at "go2"
    refine q _ _ .flag (by walk_at "gr") ⟨_, rfl, upd_same⟩ trivial ?_
    rintro v w ⟨i, rfl, i1, i2⟩ ⟨j, rfl, j1, j2⟩
    exact ⟨_, .less, _, rfl⟩
  | same =>
    walk_at "go2"
    refine q _ _ .flag (by walk_at "gr") ⟨_, rfl, upd_same⟩ trivial ?_
    intro v w g1 g2
    exact ⟨_, .same (scal_gam hk g1 g2), _, rfl⟩
  | and_ =>
    obtain ⟨rfl, rfl⟩ := And.intro (isFlag_ex hk.1) (isFlag_ex hk.2)
    walk_at "go2"
    refine q _ _ .flag (by walk_at "gr") ⟨_, rfl, upd_same⟩ trivial ?_
    rintro v w ⟨i, rfl⟩ ⟨j, rfl⟩
    exact ⟨_, .and_, _, rfl⟩
  | or_ =>
    obtain ⟨rfl, rfl⟩ := And.intro (isFlag_ex hk.1) (isFlag_ex hk.2)
    walk_at "go2"
    refine q _ _ .flag (by walk_at "gr") ⟨_, rfl, upd_same⟩ trivial ?_
    rintro v w ⟨i, rfl⟩ ⟨j, rfl⟩
    exact ⟨_, .or_, _, rfl⟩
  | join =>
    obtain ⟨⟨n, rfl⟩, m, rfl⟩ := And.intro (isText_ex hk.1) (isText_ex hk.2)
    obtain ⟨p1, rfl, h1⟩ := hx
    obtain ⟨p2, rfl, h2⟩ := hy
    obtain ⟨n0, n1⟩ := oa
    obtain ⟨m0, m1⟩ := ob
    walk_at "go2"
    refine q _ _ (.text _) (by walk_at "gr") ⟨_, rfl, upd_same⟩ ⟨by omega, by omega⟩ ?_
    rintro v w ⟨s, rfl, ls⟩ ⟨t, rfl, lt⟩
    have e := len_app s t
    exact ⟨_, .join (by omega), _, rfl, by omega⟩
end
end Snk
set_option Elab.async false
set_option linter.all false
set_option maxRecDepth 100000
set_option maxHeartbeats 4000000
namespace Snk
open PySem PySem.Spec PyProof.Rows L2
local macro_rules | `(tactic| walk_at "K") => `(tactic| try simp only [ws_K, ws_P, ws_w, cx_K, cx_P, cx_w])
local macro_rules | `(tactic| walk_at "isi") => `(tactic| first
  | with_reducible refine r_isB (.base (.int _)) kk_int_int ?_ | with_reducible refine r_isB (.base (.int _)) kk_int_bool ?_ | with_reducible refine r_isB (.base (.int _)) kk_int_str ?_ | with_reducible refine r_isB (.base (.int _)) kk_int_tuple ?_ | with_reducible refine r_isB (.base (.bl _)) kk_bool_int ?_ | with_reducible refine r_isB (.base (.bl _)) kk_bool_bool ?_ | with_reducible refine r_isB (.base (.bl _)) kk_bool_str ?_ | with_reducible refine r_isB (.base (.bl _)) kk_bool_tuple ?_ | with_reducible refine r_isB (.base (.str _)) kk_str_int ?_ | with_reducible refine r_isB (.base (.str _)) kk_str_bool ?_ | with_reducible refine r_isB (.base (.str _)) kk_str_str ?_ | with_reducible refine r_isB (.base (.str _)) kk_str_tuple ?_ | with_reducible refine r_isB (.base .non) kk_NoneType_int ?_ | with_reducible refine r_isB (.base .non) kk_NoneType_bool ?_ | with_reducible refine r_isB (.base .non) kk_NoneType_str ?_ | with_reducible refine r_isB (.base .non) kk_NoneType_tuple ?_ | with_reducible refine r_isB (.base (.tup (by assumption))) kk_tuple_int ?_ | with_reducible refine r_isB (.base (.tup (by assumption))) kk_tuple_bool ?_ | with_reducible refine r_isB (.base (.tup (by assumption))) kk_tuple_str ?_ | with_reducible refine r_isB (.base (.tup (by assumption))) kk_tuple_tuple ?_)
local macro_rules | `(tactic| tb_rel) => `(tactic| first | assumption | exact upd_same | ((refine look_old ?hl ?hn); (case hn => assumption); (case hl => tb_rel)) | ((refine Gr.tup (by assumption) _ _ ?hl); (case hl => tb_rel)))
local macro_rules | `(tactic| tb_start) => `(tactic| first
  | ((with_reducible refine' r_var ?hvar ?_); (case hvar => exact rfl))
  | with_reducible refine r_c ?_ | with_reducible refine r_op ?_ | with_reducible refine r_un ?_ | with_reducible refine r_chain ?_ | with_reducible refine r_tup ?_ | with_reducible refine r_lst ?_ | with_reducible refine r_cons ?_ | with_reducible refine r_nil ?_ | with_reducible refine r_cb ?_ | with_reducible refine r_call ?_ | with_reducible refine r_bm ?_ | with_reducible refine r_bm0 ?_ | with_reducible refine r_sl ?_ | with_reducible refine r_test ?_ | with_reducible refine r_tb ?_ | with_reducible refine r_tand ?_ | with_reducible refine r_tor ?_ | with_reducible refine r_tnot ?_ | with_reducible refine r_andV ?_ | with_reducible refine r_orV ?_ | with_reducible refine r_notV ?_ | with_reducible refine r_ife ?_ | with_reducible refine s_seq ?_ | with_reducible refine s_nextM ?_ | with_reducible refine s_next ?_ | with_reducible refine s_ret ?_ | with_reducible refine s_if ?_ | with_reducible refine s_asg ?_ | with_reducible refine s_drop ?_ | with_reducible refine s_cont ?_ | with_reducible refine s_break ?_ | with_reducible refine g_name ?_ | with_reducible refine r_I0 ?_ | with_reducible refine r_U ?_ | with_reducible refine k_bl2 ?_ | with_reducible refine r_part ?_ | with_reducible refine r_nopart ?_ | with_reducible refine if_tt ?_ | with_reducible refine if_ff ?_ | with_reducible refine if_nf ?_ | with_reducible refine if_nt ?_
  | ((with_reducible refine' r_eq ?hsc ?_); (case hsc => exact rfl)) | ((with_reducible refine' r_ne ?hsc ?_); (case hsc => exact rfl)) | ((with_reducible refine isi_g ?_); walk_at "isi") | (first | ((with_reducible refine' r_ixT ?hix ?eix ?_); (case hix => tb_rel); (case eix => first | exact at0 | exact at1 | exact at2 | rfl))) | ((with_reducible refine' if_t ?hc ?_); (case hc => decide +kernel)) | ((with_reducible refine' if_f ?hc ?_); (case hc => decide +kernel)))
local macro_rules | `(tactic| walk_at "go") => `(tactic| repeat tb_start)
local macro_rules | `(tactic| walk_at "gr") => `(tactic| first | exact Gr.refl _ _ | assumption | ((refine Gr.trans ?ga (Gr.new ?gn)); (case gn => assumption); (case ga => walk_at "gr")) | ((refine' Gr.trans ?ga ?gb); (case gb => assumption); (case ga => walk_at "gr")))
local macro_rules | `(tactic| walk_at "go2") => `(tactic| repeat (first | tb_start | (((with_reducible refine' And.intro ?hz ?_); (case hz => (refine sz10 ?_; first | decide | (simp; done) | (simp; omega))); intro p hp)) | (first | ((with_reducible refine' r_inT ?hs ?hf ?ha ?_); (case hs => first | assumption | exact SqT.of (by tb_rel)); (case hf => rfl); (case ha => first | rfl | decide +kernel | exact flat_strs)) | ((with_reducible refine' r_niT ?hs ?hf ?ha ?_); (case hs => first | assumption | exact SqT.of (by tb_rel)); (case hf => rfl); (case ha => first | rfl | decide +kernel | exact flat_strs)))))
section
variable {P : Program} {w : World} {K : PySem.W.Frag} {mg : Str → Option Value} {base : Heap}
/-- operators of one operand: head and number -/
inductive Head1 : Ins → Str → V → Prop where
  | not {v : V} : Head1 .not "not" v
  | div {n : Int} : Head1 (.div n) "div" (.int n)
  | mod {n : Int} : Head1 (.mod n) "mod" (.int n)
  | cut {n : Int} : Head1 (.cut n) "cut" (.int n)
def Kind1 : Ins → Bd → Prop
  | .not, a => IsFlag a
  | .cut _, a => IsText a
  | _, a => IsInt a
theorem cutS_len (z : Str) (n : Int) (h0 : 0 ≤ n) : ((cutS z none (some n)).length : Int) ≤ z.length ∧ ((cutS z none (some n)).length : Int) ≤ n := by
  have e : (cutS z none (some n)).length = min n.toNat z.length := by
    show (((z.cps.toList.drop (HT.sIx z.length 0 none)).take (HT.sIx z.length z.length (some n) - HT.sIx z.length 0 none)).toArray).size = _
    rw [List.size_toArray, List.length_take, List.length_drop, Array.length_toList, HT.sIx_none]
    have : HT.sIx z.length z.length (some n) = min n.toNat z.length := by
      rw [show n = ((n.toNat : Nat) : Int) by omega, HT.sIx_nat]
      rfl
    rw [this]
    show min (min n.toNat z.length - 0) (z.length - 0) = _
    omega
  rw [e]
  omega
/-! ### single_bounds -/
abbrev nm_single_bounds : List Str := ["head", "a", "n"]
theorem sc_single_bounds : FnScope nm_single_bounds ["head", "a", "n"] (defScope (topS 18)) := ⟨rfl, rfl, rfl, by decide +kernel, rfl, by decide +kernel, by decide +kernel⟩
-- slots: 0:head 1:a 2:n
def spSB : Sp := fun vs H Q _ => ∃ (i : Ins) (h : Str) (x nv : V) (a : Bd), vs = [.str h, x, nv] ∧ Head1 i h nv ∧ InsOk i ∧ BdV H x a ∧ BdOk a ∧ Kind1 i a ∧ ∀ H' u c, Gr no H H' → BdV H' u c → BdPre c → (∀ v, Gam a v → ∃ z, OpV i [v] z ∧ Gam c z) → Q u H'
theorem c_single_bounds (D : DefAt K mg "single_bounds" 18 ["head", "a", "n"]) (B : Blt mg) : Cal P w K mg base CX0 1 "single_bounds" ["head", "a", "n"] spSB := by
  refine mk0 D sc_single_bounds (fun vs H Q E h => by obtain ⟨_, _, _, _, _, rfl, _⟩ := h; rfl) ?_
  rintro X Q vs H E ⟨f, cdv, A, outer, s, H0, rfl⟩ hr ⟨i, h, x, nv, a, rfl, h1, io, hx, oa, hk, q⟩
  refine ⟨_, (pss_cons (ps_if (pt_cmpR op_eq (pv 0) pe_str (nomark _)) (pss_one (ps_ret (pe_tup (pa_cons pe_str pa_nil)))) pss_nil)
      (pss_cons (ps_if (pt_cmpR op_eq (pv 0) pe_str (nomark _)) (pss_one (ps_ret (pe_tup (pa_cons pe_str (pa_cons (pe_op op_fdivN (pe_ix ix_tup (pv 1) pe_int (fun _ _ => rfl)) (pv 2)) (pa_cons (pe_op op_fdivN (pe_ix ix_tup (pv 1) pe_int (fun _ _ => rfl)) (pv 2)) pa_nil)))))) pss_nil)
      (pss_cons (ps_if (pt_cmpR op_eq (pv 0) pe_str (nomark _)) (pss_cons (ps_if (PW.pt (pw_and (pt_cmpR op_le pe_int (pe_ix ix_tup (pv 1) pe_int (fun _ _ => rfl)) (nomark _)) (pw_and1 (pt_cmpR op_lt (pe_ix ix_tup (pv 1) pe_int (fun _ _ => rfl)) (pv 2) (nomark _))))) (pss_one (ps_ret (pv 1))) pss_nil)
      (pss_one (ps_ret (pe_tup (pa_cons pe_str (pa_cons pe_int (pa_cons (pe_op op_sub (pv 2) pe_int) pa_nil))))))) pss_nil)
      (pss_one (ps_ret (pe_tup (pa_cons pe_str (pa_cons (pe_callB (call_min2 rfl) rfl B.min_ (by decide +kernel) (pa_cons (pe_ix ix_tup (pv 1) pe_int (fun _ _ => rfl)) (pa_cons (pv 2) pa_nil))) pa_nil)))))))), ?_⟩
  walk_at "K"
  cases h1 with
  | not =>
    obtain rfl := isFlag_ex hk
    walk_at "go2"
    refine q _ _ .flag (by walk_at "gr") ⟨_, rfl, upd_same⟩ trivial ?_
    rintro v ⟨b, rfl⟩
    exact ⟨_, .not, _, rfl⟩
  | @div n =>
    obtain ⟨lo, hi, rfl⟩ := isInt_ex hk
    obtain ⟨p1, rfl, e1⟩ := hx
    obtain ⟨n1, n2⟩ := (show 1 ≤ n ∧ n ≤ 1000000000 from io)
    walk_at "go2"
    refine r_I ⟨by omega, by omega⟩ ?_
    walk_at "go2"
    refine r_I ⟨by omega, by omega⟩ ?_
    walk_at "go2"
    refine q _ _ (.int _ _) (by walk_at "gr") ⟨_, rfl, upd_same⟩ (fdiv_mono oa.2.1 n1) ?_
    rintro v ⟨j, rfl, j1, j2⟩
    exact ⟨_, .div io, _, rfl, fdiv_mono j1 n1, fdiv_mono j2 n1⟩
  | @mod n =>
    obtain ⟨lo, hi, rfl⟩ := isInt_ex hk
    obtain ⟨p1, rfl, e1⟩ := id hx
    obtain ⟨n1, n2⟩ := (show 1 ≤ n ∧ n ≤ 1000000000 from io)
    walk_at "go2"
    have two : ∀ {H' : Hp} {u : V}, Gr no H H' → BdV H' u (.int 0 (n - 1)) → Q u H' := fun g b => by
      refine q _ _ _ g b (show (0 : Int) ≤ n - 1 by omega) ?_
      rintro v ⟨j, rfl, j1, j2⟩
      exact ⟨_, .mod io, _, rfl, (fmod_lo n1).1, (fmod_lo n1).2⟩
    refine if_dec (fun c1 => ?_) (fun c1 => ?_)
    · walk_at "go2"
      refine if_dec (fun c2 => ?_) (fun c2 => ?_)
      · walk_at "go2"
        refine q _ _ _ (Gr.refl _ _) hx oa.2.1 ?_
        rintro v ⟨j, rfl, j1, j2⟩
        exact ⟨_, .mod io, _, by rw [fmod_self (by omega) (by omega)], j1, j2⟩
      · walk_at "go2"
        exact two (by walk_at "gr") ⟨_, rfl, upd_same⟩
    · walk_at "go2"
      exact two (by walk_at "gr") ⟨_, rfl, upd_same⟩
  | @cut n =>
    obtain ⟨m, rfl⟩ := isText_ex hk
    obtain ⟨p1, rfl, e1⟩ := hx
    obtain ⟨n1, n2⟩ := (show 0 ≤ n ∧ n ≤ 40 from io)
    obtain ⟨m1, m2⟩ := (show 0 ≤ m ∧ m ≤ 200 from oa)
    walk_at "go2"
    refine ⟨_, _, rfl, ?_⟩
    walk_at "go2"
    refine q _ _ (.text _) (by walk_at "gr") ⟨_, rfl, upd_same⟩ ?_ ?_
    · refine ⟨?_, ?_⟩ <;> split <;> omega
    · rintro v ⟨s, rfl, ls⟩
      have hc := cutS_len s n n1
      exact ⟨_, .cut (by omega) n1, _, rfl, by split <;> omega⟩
/-! ### combine -/
abbrev nm_combine : List Str := ["head", "a", "b"]
theorem sc_combine : FnScope nm_combine ["head", "a", "b"] (defScope (topS 22)) := ⟨rfl, rfl, rfl, by decide +kernel, rfl, by decide +kernel, by decide +kernel⟩
-- slots: 0:head 1:a 2:b
def spComb : Sp := fun vs H Q _ => ∃ (o : POp) (a b z : V), vs = [.str o.nm, a, b] ∧ PairV o a b z ∧ ∀ H', Gr no H H' → Q z H'
set_option maxHeartbeats 16000000 in
theorem c_combine (D : DefAt K mg "combine" 22 ["head", "a", "b"]) (B : Blt mg) : Cal P w K mg base CX0 1 "combine" ["head", "a", "b"] spComb := by
  refine mk0 D sc_combine (fun vs H Q E h => by obtain ⟨_, _, _, _, rfl, _⟩ := h; rfl) ?_
  rintro X Q vs H E ⟨f, cdv, A, outer, s, H0, rfl⟩ hr ⟨o, a, b, z, rfl, hp, q⟩
  refine ⟨_, (pss_cons (ps_if (pt_cmpR op_eq (pv 0) pe_str (nomark _)) (pss_one (ps_ret (pe_op op_add (pv 1) (pv 2)))) pss_nil)
      (pss_cons (ps_if (pt_cmpR op_eq (pv 0) pe_str (nomark _)) (pss_one (ps_ret (pe_op op_sub (pv 1) (pv 2)))) pss_nil)
      (pss_cons (ps_if (pt_cmpR op_eq (pv 0) pe_str (nomark _)) (pss_one (ps_ret (pe_op op_mul (pv 1) (pv 2)))) pss_nil)
      (pss_cons (ps_if (pt_cmpR op_eq (pv 0) pe_str (nomark _)) (pss_one (ps_ret (pe_callB (call_min2 rfl) rfl B.min_ (by decide +kernel) (pa_cons (pv 1) (pa_cons (pv 2) pa_nil))))) pss_nil)
      (pss_cons (ps_if (pt_cmpR op_eq (pv 0) pe_str (nomark _)) (pss_one (ps_ret (pe_callB (call_max2 rfl) rfl B.max_ (by decide +kernel) (pa_cons (pv 1) (pa_cons (pv 2) pa_nil))))) pss_nil)
      (pss_cons (ps_if (pt_cmpR op_eq (pv 0) pe_str (nomark _)) (pss_one (ps_ret (pe_cmpR op_lt (pv 1) (pv 2) (nomark _)))) pss_nil)
      (pss_cons (ps_if (pt_cmpR op_eq (pv 0) pe_str (nomark _)) (pss_one (ps_ret (pe_cmpR op_eq (pv 1) (pv 2) (nomark _)))) pss_nil)
      (pss_cons (ps_if (pt_cmpR op_eq (pv 0) pe_str (nomark _)) (pss_one (ps_ret (pe_and (pv 1) (pe_one (pv 2))))) pss_nil)
      (pss_cons (ps_if (pt_cmpR op_eq (pv 0) pe_str (nomark _)) (pss_one (ps_ret (pe_or (pv 1) (pe_one (pv 2))))) pss_nil)
      (pss_one (ps_ret (pe_op op_add_str (pv 1) (pv 2))))))))))))), ?_⟩
  walk_at "K"
  cases hp with
  | add =>
    walk_at "go2"
    exact q _ (Gr.refl _ _)
  | sub =>
    walk_at "go2"
    exact q _ (Gr.refl _ _)
  | mul h =>
    walk_at "go2"
    refine r_I (.inl ⟨by omega, by omega⟩) ?_
    exact q _ (Gr.refl _ _)
  | mn =>
    walk_at "go2"
    exact ⟨_, _, rfl, q _ (Gr.refl _ _)⟩
  | mx =>
    walk_at "go2"
    exact ⟨_, _, rfl, q _ (Gr.refl _ _)⟩
  | less =>
    walk_at "go2"
    exact q _ (Gr.refl _ _)
  | same h =>
    walk_at "go2"
    exact r_eq h (q _ (Gr.refl _ _))
  | @and_ a b =>
    walk_at "go2"
    cases a with
    | true => walk_at "go2"; exact q _ (Gr.refl _ _)
    | false => walk_at "go2"; exact q _ (Gr.refl _ _)
  | @or_ a b =>
    walk_at "go2"
    cases a with
    | true => walk_at "go2"; exact q _ (Gr.refl _ _)
    | false => walk_at "go2"; exact q _ (Gr.refl _ _)
  | join h =>
    walk_at "go2"
    exact ⟨_, _, rfl, rfl, sz10 (by omega), q _ (Gr.refl _ _)⟩
/-! ### alter -/
abbrev nm_alter : List Str := ["head", "a", "n"]
theorem sc_alter : FnScope nm_alter ["head", "a", "n"] (defScope (topS 23)) := ⟨rfl, rfl, rfl, by decide +kernel, rfl, by decide +kernel, by decide +kernel⟩
-- slots: 0:head 1:a 2:n
def spAlter : Sp := fun vs H Q _ => ∃ (i : Ins) (h : Str) (a nv z : V), vs = [.str h, a, nv] ∧ Head1 i h nv ∧ OpV i [a] z ∧ ∀ H', Gr no H H' → Q z H'
theorem c_alter (D : DefAt K mg "alter" 23 ["head", "a", "n"]) (B : Blt mg) : Cal P w K mg base CX0 1 "alter" ["head", "a", "n"] spAlter := by
  refine mk0 D sc_alter (fun vs H Q E h => by obtain ⟨_, _, _, _, _, rfl, _⟩ := h; rfl) ?_
  rintro X Q vs H E ⟨f, cdv, A, outer, s, H0, rfl⟩ hr ⟨i, h, a, nv, z, rfl, h1, ho, q⟩
  refine ⟨_, (pss_cons (ps_if (pt_cmpR op_eq (pv 0) pe_str (nomark _)) (pss_one (ps_ret (pe_not (pv 1)))) pss_nil)
      (pss_cons (ps_if (pt_cmpR op_eq (pv 0) pe_str (nomark _)) (pss_one (ps_ret (pe_op op_fdivN (pe_callTy call_int1 rfl B.int_ (by decide +kernel) (pa_cons (pv 1) pa_nil)) (pv 2)))) pss_nil)
      (pss_cons (ps_if (pt_cmpR op_eq (pv 0) pe_str (nomark _)) (pss_one (ps_ret (pe_op op_modN (pe_callTy call_int1 rfl B.int_ (by decide +kernel) (pa_cons (pv 1) pa_nil)) (pv 2)))) pss_nil)
      (pss_one (ps_ret (pe_slice sl_str (pv 1) po_none (po_some (pv 2)))))))), ?_⟩
  walk_at "K"
  cases h1 with
  | not =>
    cases ho with
    | not =>
      walk_at "go2"
      exact q _ (Gr.refl _ _)
  | div =>
    cases ho with
    | div h =>
      walk_at "go2"
      refine .inl ⟨_, rfl, ?_⟩
      walk_at "go2"
      refine r_I ⟨by omega, by omega⟩ ?_
      exact q _ (Gr.refl _ _)
  | mod =>
    cases ho with
    | mod h =>
      walk_at "go2"
      refine .inl ⟨_, rfl, ?_⟩
      walk_at "go2"
      refine r_I (by omega) ?_
      exact q _ (Gr.refl _ _)
  | cut =>
    cases ho with
    | cut h h0 =>
      walk_at "go2"
      refine k_int ?_
      exact ⟨_, rfl, sz10 (by omega), q _ (Gr.refl _ _)⟩
end
end Snk
set_option Elab.async false
set_option linter.all false
set_option maxRecDepth 100000
set_option maxHeartbeats 4000000
namespace Snk
open PySem PySem.Spec PyProof.Rows L2
local macro_rules | `(tactic| walk_at "K") => `(tactic| try simp only [ws_K, ws_P, ws_w, cx_K, cx_P, cx_w])
local macro_rules | `(tactic| walk_at "isi") => `(tactic| first
  | with_reducible refine r_isB (.base (.int _)) kk_int_int ?_ | with_reducible refine r_isB (.base (.int _)) kk_int_bool ?_ | with_reducible refine r_isB (.base (.int _)) kk_int_str ?_ | with_reducible refine r_isB (.base (.int _)) kk_int_tuple ?_ | with_reducible refine r_isB (.base (.bl _)) kk_bool_int ?_ | with_reducible refine r_isB (.base (.bl _)) kk_bool_bool ?_ | with_reducible refine r_isB (.base (.bl _)) kk_bool_str ?_ | with_reducible refine r_isB (.base (.bl _)) kk_bool_tuple ?_ | with_reducible refine r_isB (.base (.str _)) kk_str_int ?_ | with_reducible refine r_isB (.base (.str _)) kk_str_bool ?_ | with_reducible refine r_isB (.base (.str _)) kk_str_str ?_ | with_reducible refine r_isB (.base (.str _)) kk_str_tuple ?_ | with_reducible refine r_isB (.base .non) kk_NoneType_int ?_ | with_reducible refine r_isB (.base .non) kk_NoneType_bool ?_ | with_reducible refine r_isB (.base .non) kk_NoneType_str ?_ | with_reducible refine r_isB (.base .non) kk_NoneType_tuple ?_ | with_reducible refine r_isB (.base (.tup (by assumption))) kk_tuple_int ?_ | with_reducible refine r_isB (.base (.tup (by assumption))) kk_tuple_bool ?_ | with_reducible refine r_isB (.base (.tup (by assumption))) kk_tuple_str ?_ | with_reducible refine r_isB (.base (.tup (by assumption))) kk_tuple_tuple ?_)
local macro_rules | `(tactic| tb_rel) => `(tactic| first | assumption | exact upd_same | ((refine look_old ?hl ?hn); (case hn => assumption); (case hl => tb_rel)) | ((refine Gr.tup (by assumption) _ _ ?hl); (case hl => tb_rel)))
local macro_rules | `(tactic| tb_start) => `(tactic| first
  | ((with_reducible refine' r_var ?hvar ?_); (case hvar => exact rfl))
  | with_reducible refine r_c ?_ | with_reducible refine r_op ?_ | with_reducible refine r_un ?_ | with_reducible refine r_chain ?_ | with_reducible refine r_tup ?_ | with_reducible refine r_lst ?_ | with_reducible refine r_cons ?_ | with_reducible refine r_nil ?_ | with_reducible refine r_cb ?_ | with_reducible refine r_call ?_ | with_reducible refine r_bm ?_ | with_reducible refine r_bm0 ?_ | with_reducible refine r_sl ?_ | with_reducible refine r_test ?_ | with_reducible refine r_tb ?_ | with_reducible refine r_tand ?_ | with_reducible refine r_tor ?_ | with_reducible refine r_tnot ?_ | with_reducible refine r_andV ?_ | with_reducible refine r_orV ?_ | with_reducible refine r_notV ?_ | with_reducible refine r_ife ?_ | with_reducible refine s_seq ?_ | with_reducible refine s_nextM ?_ | with_reducible refine s_next ?_ | with_reducible refine s_ret ?_ | with_reducible refine s_if ?_ | with_reducible refine s_asg ?_ | with_reducible refine s_drop ?_ | with_reducible refine s_cont ?_ | with_reducible refine s_break ?_ | with_reducible refine g_name ?_ | with_reducible refine r_I0 ?_ | with_reducible refine r_U ?_ | with_reducible refine k_bl2 ?_ | with_reducible refine r_part ?_ | with_reducible refine r_nopart ?_ | with_reducible refine if_tt ?_ | with_reducible refine if_ff ?_ | with_reducible refine if_nf ?_ | with_reducible refine if_nt ?_
  | ((with_reducible refine' r_eq ?hsc ?_); (case hsc => exact rfl)) | ((with_reducible refine' r_ne ?hsc ?_); (case hsc => exact rfl)) | ((with_reducible refine isi_g ?_); walk_at "isi") | (first | ((with_reducible refine' r_ixT ?hix ?eix ?_); (case hix => tb_rel); (case eix => first | exact at0 | exact at1 | exact at2 | rfl))) | ((with_reducible refine' if_t ?hc ?_); (case hc => decide +kernel)) | ((with_reducible refine' if_f ?hc ?_); (case hc => decide +kernel)))
local macro_rules | `(tactic| walk_at "go") => `(tactic| repeat tb_start)
local macro_rules | `(tactic| walk_at "gr") => `(tactic| first | exact Gr.refl _ _ | assumption | ((refine Gr.trans ?ga (Gr.new ?gn)); (case gn => assumption); (case ga => walk_at "gr")) | ((refine' Gr.trans ?ga ?gb); (case gb => assumption); (case ga => walk_at "gr")))
local macro_rules | `(tactic| walk_at "go2") => `(tactic| repeat (first | tb_start | (((with_reducible refine' And.intro ?hz ?_); (case hz => (refine sz10 ?_; first | decide | (simp; done) | (simp; omega))); intro p hp)) | (first | ((with_reducible refine' r_inT ?hs ?hf ?ha ?_); (case hs => first | assumption | exact SqT.of (by tb_rel)); (case hf => rfl); (case ha => first | rfl | decide +kernel | exact flat_strs)) | ((with_reducible refine' r_niT ?hs ?hf ?ha ?_); (case hs => first | assumption | exact SqT.of (by tb_rel)); (case hf => rfl); (case ha => first | rfl | decide +kernel | exact flat_strs)))))
section
variable {P : Program} {w : World} {K : PySem.W.Frag} {mg : Str → Option Value} {base : Heap}
theorem s_for {wi : TI} {g : TG} {tb : TS} {D : Ends} {σ : L2.St} {H : Hp} (h : wi σ H fun J H1 => ∃ W : Nat → Nat → L2.St → Hp → Prop, (∃ m, W 0 m σ H1) ∧ ∀ i m σ H, W i m σ H →
  (J.stop i H ∧ D.nx σ H) ∨ (J.go i H ∧ ∃ N : L2.St → Hp → Prop, (∀ σ' H', N σ' H' → ∃ m', m' < m ∧ W (i + 1) m' σ' H') ∧ ∀ x H', J.yld i H x H' → g x σ H' fun σ2 H2 => tb { D with nx := N, ct := N, bk := D.nx } σ2 H2)) : tFor wi g tb D σ H := h
theorem i_str {te : TE} {σ : L2.St} {H : Hp} {R : It → Hp → Prop} (h : te σ H fun v H1 => ∃ x, v = .str x ∧ R (Its x) H1) : iStr te σ H R := h
theorem i_tup {K : PySem.W.Frag} {te : TE} {σ : L2.St} {H : Hp} {R : It → Hp → Prop} (h : te σ H fun x H1 => ∃ a, x = .ref a ∧ (∃ xs, SqT K H1 a xs) ∧ R (Itt K a) H1) : iTup K te σ H R := h
theorem i_lst {K : PySem.W.Frag} {te : TE} {σ : L2.St} {H : Hp} {R : It → Hp → Prop} (h : te σ H fun x H1 => ∃ a, x = .ref a ∧ (∃ xs, SqL K H1 a xs) ∧ R (Itl K a) H1) : iList K te σ H R := h
theorem for_str {x : Str} {g : TG} {tb : TS} {D : Ends} {σ : L2.St} {H : Hp} (Pv : L2.St → Hp → Prop) (h0 : Pv σ H)
    (hs : ∀ c σ H, Pv σ H → g (.str ⟨#[c]⟩) σ H fun σ2 H2 => tb { D with nx := Pv, ct := Pv, bk := D.nx } σ2 H2) (hd : ∀ σ H, Pv σ H → D.nx σ H) :
    ∃ W : Nat → Nat → L2.St → Hp → Prop, (∃ m, W 0 m σ H) ∧ ∀ i m σ H, W i m σ H →
      ((Its x).stop i H ∧ D.nx σ H) ∨ ((Its x).go i H ∧ ∃ N : L2.St → Hp → Prop, (∀ σ' H', N σ' H' → ∃ m', m' < m ∧ W (i + 1) m' σ' H') ∧ ∀ x' H', (Its x).yld i H x' H' → g x' σ H' fun σ2 H2 => tb { D with nx := N, ct := N, bk := D.nx } σ2 H2) := by
  refine ⟨fun i m σ H => m = x.cps.size - i ∧ i ≤ x.cps.size ∧ Pv σ H, ⟨x.cps.size, by simp, Nat.zero_le _, h0⟩, ?_⟩
  rintro i m σ H ⟨rfl, hi, p⟩
  by_cases hlt : i < x.cps.size
  · refine .inr ⟨hlt, Pv, fun σ' H' p' => ⟨x.cps.size - (i + 1), by omega, rfl, hlt, p'⟩, fun x' H' y => ?_⟩
    obtain ⟨e, c, _, y⟩ := y
    subst e y
    exact hs c σ _ p
  · exact .inl ⟨by show x.cps.size ≤ i; omega, hd σ H p⟩
/-- some answer, no more -/
def spAny (C : V → Prop) (R : V → Bool → Prop) : Sp := fun vs H Q _ => ∃ v, vs = [v] ∧ C v ∧ ∀ k H', Gr no H H' → R v k → Q (.bl k) H'
def FlS : V → Prop
  | .int _ => True
  | .bl _ => True
  | .str s => s.length ≤ 1000
  | .non => True
  | _ => False
theorem FlS.fl : ∀ {v : V}, FlS v → Fl v
  | .int _, _ => trivial
  | .bl _, _ => trivial
  | .str _, _ => trivial
  | .non, _ => trivial
/-! ### is_printable -/
abbrev nm_is_printable : List Str := ["value", "char"]
theorem sc_is_printable : FnScope nm_is_printable ["value"] (defScope (topS 8)) := ⟨rfl, rfl, rfl, by decide +kernel, rfl, by decide +kernel, by decide +kernel⟩
-- slots: 0:value 1:char
theorem c_is_printable (D : DefAt K mg "is_printable" 8 ["value"]) (B : Blt mg) : Cal P w K mg base CX0 1 "is_printable" ["value"] (spAny (fun v => ∃ s : Str, v = .str s) (fun _ _ => True)) := by
  refine mk0 D sc_is_printable (fun vs H Q E h => by obtain ⟨_, rfl, _⟩ := h; rfl) ?_
  rintro X Q vs H E ⟨f, cdv, A, outer, s, H0, rfl⟩ hr ⟨_, rfl, ⟨s, rfl⟩, q⟩
  refine ⟨_, (pss_cons (ps_if (pt_not (pt_val (pe_callB call_isi rfl B.isinstance_ (by decide +kernel) (pa_cons (pv 0) (pa_cons (pe_bltn (v := .ty "str") rfl B.str_ (by decide +kernel) rfl) pa_nil))))) (pss_one (ps_ret pe_bl)) pss_nil)
      (pss_cons (ps_for PassesOwn.never rfl (pi_str (pv 0)) (pg_name (i := 1) sc_is_printable.nd rfl (Or.inl rfl)) (pss_one (ps_if (PW.pt (pw_or (pt_not (pt_chain op_le_str op_le_str pe_str (pv 1) pe_str)) (pw_or1 (pt_cmpR op_eq (pe_callB call_ord rfl B.ord_ (by decide +kernel) (pa_cons (pv 1) pa_nil)) pe_int (nomark _))))) (pss_one (ps_ret pe_bl)) pss_nil)))
      (pss_one (ps_ret pe_bl)))), ?_⟩
  walk_at "K"
  walk_at "go2"
  refine s_for (i_str ?_)
  walk_at "go2"
  refine ⟨_, rfl, ?_⟩
  refine for_str (fun σ H' => H' = H ∧ ∃ u, σ = [some (.str s), u]) ⟨rfl, _, rfl⟩ ?_ ?_
  · rintro c σ H' ⟨rfl, u, rfl⟩
    walk_at "go2"
    refine ⟨_, _, rfl, rfl, ?_⟩
    walk_at "go2"
    refine if_b (fun c1 => ?_) (fun c1 => ?_)
    · refine ⟨_, _, rfl, rfl, ?_⟩
      refine k_bl2 ?_
      refine if_nb (fun c2 => ?_) (fun c2 => ?_)
      · walk_at "go2"
        exact q _ _ (Gr.refl _ _) trivial
      · walk_at "go2"
        refine ⟨_, rfl, rfl, ?_⟩
        walk_at "go2"
        refine if_dec (fun c3 => ?_) (fun c3 => ?_)
        · walk_at "go2"
          exact q _ _ (Gr.refl _ _) trivial
        · walk_at "go2"
          exact ⟨rfl, _, rfl⟩
    · walk_at "go2"
      exact q _ _ (Gr.refl _ _) trivial
  · rintro σ H' ⟨rfl, u, rfl⟩
    walk_at "go2"
    exact q _ _ (Gr.refl _ _) trivial
end
end Snk
set_option Elab.async false
set_option linter.all false
set_option maxRecDepth 100000
set_option maxHeartbeats 4000000
namespace Snk
open PySem PySem.Spec PyProof.Rows L2
local macro_rules | `(tactic| walk_at "K") => `(tactic| try simp only [ws_K, ws_P, ws_w, cx_K, cx_P, cx_w])
local macro_rules | `(tactic| walk_at "isi") => `(tactic| first
  | with_reducible refine r_isB (.base (.int _)) kk_int_int ?_ | with_reducible refine r_isB (.base (.int _)) kk_int_bool ?_ | with_reducible refine r_isB (.base (.int _)) kk_int_str ?_ | with_reducible refine r_isB (.base (.int _)) kk_int_tuple ?_ | with_reducible refine r_isB (.base (.bl _)) kk_bool_int ?_ | with_reducible refine r_isB (.base (.bl _)) kk_bool_bool ?_ | with_reducible refine r_isB (.base (.bl _)) kk_bool_str ?_ | with_reducible refine r_isB (.base (.bl _)) kk_bool_tuple ?_ | with_reducible refine r_isB (.base (.str _)) kk_str_int ?_ | with_reducible refine r_isB (.base (.str _)) kk_str_bool ?_ | with_reducible refine r_isB (.base (.str _)) kk_str_str ?_ | with_reducible refine r_isB (.base (.str _)) kk_str_tuple ?_ | with_reducible refine r_isB (.base .non) kk_NoneType_int ?_ | with_reducible refine r_isB (.base .non) kk_NoneType_bool ?_ | with_reducible refine r_isB (.base .non) kk_NoneType_str ?_ | with_reducible refine r_isB (.base .non) kk_NoneType_tuple ?_ | with_reducible refine r_isB (.base (.tup (by assumption))) kk_tuple_int ?_ | with_reducible refine r_isB (.base (.tup (by assumption))) kk_tuple_bool ?_ | with_reducible refine r_isB (.base (.tup (by assumption))) kk_tuple_str ?_ | with_reducible refine r_isB (.base (.tup (by assumption))) kk_tuple_tuple ?_)
local macro_rules | `(tactic| tb_rel) => `(tactic| first | assumption | exact upd_same | ((refine look_old ?hl ?hn); (case hn => assumption); (case hl => tb_rel)) | ((refine Gr.tup (by assumption) _ _ ?hl); (case hl => tb_rel)))
local macro_rules | `(tactic| tb_start) => `(tactic| first
  | ((with_reducible refine' r_var ?hvar ?_); (case hvar => exact rfl))
  | with_reducible refine r_c ?_ | with_reducible refine r_op ?_ | with_reducible refine r_un ?_ | with_reducible refine r_chain ?_ | with_reducible refine r_tup ?_ | with_reducible refine r_lst ?_ | with_reducible refine r_cons ?_ | with_reducible refine r_nil ?_ | with_reducible refine r_cb ?_ | with_reducible refine r_call ?_ | with_reducible refine r_bm ?_ | with_reducible refine r_bm0 ?_ | with_reducible refine r_sl ?_ | with_reducible refine r_test ?_ | with_reducible refine r_tb ?_ | with_reducible refine r_tand ?_ | with_reducible refine r_tor ?_ | with_reducible refine r_tnot ?_ | with_reducible refine r_andV ?_ | with_reducible refine r_orV ?_ | with_reducible refine r_notV ?_ | with_reducible refine r_ife ?_ | with_reducible refine s_seq ?_ | with_reducible refine s_nextM ?_ | with_reducible refine s_next ?_ | with_reducible refine s_ret ?_ | with_reducible refine s_if ?_ | with_reducible refine s_asg ?_ | with_reducible refine s_drop ?_ | with_reducible refine s_cont ?_ | with_reducible refine s_break ?_ | with_reducible refine g_name ?_ | with_reducible refine r_I0 ?_ | with_reducible refine r_U ?_ | with_reducible refine k_bl2 ?_ | with_reducible refine r_part ?_ | with_reducible refine r_nopart ?_ | with_reducible refine if_tt ?_ | with_reducible refine if_ff ?_ | with_reducible refine if_nf ?_ | with_reducible refine if_nt ?_
  | ((with_reducible refine' r_eq ?hsc ?_); (case hsc => exact rfl)) | ((with_reducible refine' r_ne ?hsc ?_); (case hsc => exact rfl)) | ((with_reducible refine isi_g ?_); walk_at "isi") | (first | ((with_reducible refine' r_ixT ?hix ?eix ?_); (case hix => tb_rel); (case eix => first | exact at0 | exact at1 | exact at2 | rfl))) | ((with_reducible refine' if_t ?hc ?_); (case hc => decide +kernel)) | ((with_reducible refine' if_f ?hc ?_); (case hc => decide +kernel)))
local macro_rules | `(tactic| walk_at "go") => `(tactic| repeat tb_start)
local macro_rules | `(tactic| walk_at "gr") => `(tactic| first | exact Gr.refl _ _ | assumption | ((refine Gr.trans ?ga (Gr.new ?gn)); (case gn => assumption); (case ga => walk_at "gr")) | ((refine' Gr.trans ?ga ?gb); (case gb => assumption); (case ga => walk_at "gr")))
local macro_rules | `(tactic| walk_at "go2") => `(tactic| repeat (first | tb_start | (((with_reducible refine' And.intro ?hz ?_); (case hz => (refine sz10 ?_; first | decide | (simp; done) | (simp; omega))); intro p hp)) | (first | ((with_reducible refine' r_inT ?hs ?hf ?ha ?_); (case hs => first | assumption | exact SqT.of (by tb_rel)); (case hf => rfl); (case ha => first | rfl | decide +kernel | exact flat_strs)) | ((with_reducible refine' r_niT ?hs ?hf ?ha ?_); (case hs => first | assumption | exact SqT.of (by tb_rel)); (case hf => rfl); (case ha => first | rfl | decide +kernel | exact flat_strs)))))
section
variable {P : Program} {w : World} {K : PySem.W.Frag} {mg : Str → Option Value} {base : Heap}
/-! ### is_word -/
abbrev nm_is_word : List Str := ["value", "char"]
theorem sc_is_word : FnScope nm_is_word ["value"] (defScope (topS 9)) := ⟨rfl, rfl, rfl, by decide +kernel, rfl, by decide +kernel, by decide +kernel⟩
-- slots: 0:value 1:char
theorem c_is_word (D : DefAt K mg "is_word" 9 ["value"]) (B : Blt mg) : Cal P w K mg base CX0 1 "is_word" ["value"] (spAny FlS (fun v k => k = true → ∃ s : Str, v = .str s)) := by
  refine mk0 D sc_is_word (fun vs H Q E h => by obtain ⟨_, rfl, _⟩ := h; rfl) ?_
  rintro X Q vs H E ⟨f, cdv, A, outer, s, H0, rfl⟩ hr ⟨v, rfl, fl, q⟩
  refine ⟨_, (pss_cons (ps_if (PW.pt (pw_or (pt_not (pt_val (pe_callB call_isi rfl B.isinstance_ (by decide +kernel) (pa_cons (pv 0) (pa_cons (pe_bltn (v := .ty "str") rfl B.str_ (by decide +kernel) rfl) pa_nil))))) (pw_or1 (pt_not (pt_chain op_le op_le pe_int (pe_callB call_len_str rfl B.len_ PySem.boot_len (pa_cons (pv 0) pa_nil)) pe_int))))) (pss_one (ps_ret pe_bl)) pss_nil)
      (pss_cons (ps_for PassesOwn.never rfl (pi_str (pv 0)) (pg_name (i := 1) sc_is_word.nd rfl (Or.inl rfl)) (pss_one (ps_if (pt_not (pt_chain op_le_str op_le_str pe_str (pv 1) pe_str)) (pss_one (ps_ret pe_bl)) pss_nil)))
      (pss_one (ps_ret pe_bl)))), ?_⟩
  walk_at "K"
  cases v with
  | str s =>
    walk_at "go2"
    refine ⟨_, rfl, sz10 (Nat.le_trans fl (by decide)), ?_⟩
    walk_at "go2"
    refine if_dec (fun c1 => ?_) (fun c1 => ?_)
    · walk_at "go2"
      refine if_ndec (fun c2 => ?_) (fun c2 => ?_)
      · walk_at "go2"
        exact q _ _ (Gr.refl _ _) (fun z => ⟨_, rfl⟩)
      · walk_at "go2"
        refine s_for (i_str ?_)
        walk_at "go2"
        refine ⟨_, rfl, ?_⟩
        refine for_str (fun σ H' => H' = H ∧ ∃ u, σ = [some (.str s), u]) ⟨rfl, _, rfl⟩ ?_ ?_
        · rintro c σ H' ⟨rfl, u, rfl⟩
          walk_at "go2"
          refine ⟨_, _, rfl, rfl, ?_⟩
          walk_at "go2"
          refine if_b (fun c1 => ?_) (fun c1 => ?_)
          · refine ⟨_, _, rfl, rfl, ?_⟩
            refine k_bl2 ?_
            refine if_nb (fun c2 => ?_) (fun c2 => ?_)
            · walk_at "go2"
              exact q _ _ (Gr.refl _ _) (fun z => ⟨_, rfl⟩)
            · walk_at "go2"
              exact ⟨rfl, _, rfl⟩
          · walk_at "go2"
            exact q _ _ (Gr.refl _ _) (fun z => ⟨_, rfl⟩)
        · rintro σ H' ⟨rfl, u, rfl⟩
          walk_at "go2"
          exact q _ _ (Gr.refl _ _) (fun z => ⟨_, rfl⟩)
    · walk_at "go2"
      exact q _ _ (Gr.refl _ _) (fun z => ⟨_, rfl⟩)
  | int i =>
    walk_at "go2"
    exact q _ _ (Gr.refl _ _) (fun z => by cases z)
  | bl i =>
    walk_at "go2"
    exact q _ _ (Gr.refl _ _) (fun z => by cases z)
  | non =>
    walk_at "go2"
    exact q _ _ (Gr.refl _ _) (fun z => by cases z)
  | _ => exact fl.elim
end
end Snk
set_option Elab.async false
set_option linter.all false
set_option maxRecDepth 100000
set_option maxHeartbeats 4000000
namespace Snk
open PySem PySem.Spec PyProof.Rows L2
local macro_rules | `(tactic| walk_at "K") => `(tactic| try simp only [ws_K, ws_P, ws_w, cx_K, cx_P, cx_w])
local macro_rules | `(tactic| walk_at "isi") => `(tactic| first
  | with_reducible refine r_isB (.base (.int _)) kk_int_int ?_ | with_reducible refine r_isB (.base (.int _)) kk_int_bool ?_ | with_reducible refine r_isB (.base (.int _)) kk_int_str ?_ | with_reducible refine r_isB (.base (.int _)) kk_int_tuple ?_ | with_reducible refine r_isB (.base (.bl _)) kk_bool_int ?_ | with_reducible refine r_isB (.base (.bl _)) kk_bool_bool ?_ | with_reducible refine r_isB (.base (.bl _)) kk_bool_str ?_ | with_reducible refine r_isB (.base (.bl _)) kk_bool_tuple ?_ | with_reducible refine r_isB (.base (.str _)) kk_str_int ?_ | with_reducible refine r_isB (.base (.str _)) kk_str_bool ?_ | with_reducible refine r_isB (.base (.str _)) kk_str_str ?_ | with_reducible refine r_isB (.base (.str _)) kk_str_tuple ?_ | with_reducible refine r_isB (.base .non) kk_NoneType_int ?_ | with_reducible refine r_isB (.base .non) kk_NoneType_bool ?_ | with_reducible refine r_isB (.base .non) kk_NoneType_str ?_ | with_reducible refine r_isB (.base .non) kk_NoneType_tuple ?_ | with_reducible refine r_isB (.base (.tup (by assumption))) kk_tuple_int ?_ | with_reducible refine r_isB (.base (.tup (by assumption))) kk_tuple_bool ?_ | with_reducible refine r_isB (.base (.tup (by assumption))) kk_tuple_str ?_ | with_reducible refine r_isB (.base (.tup (by assumption))) kk_tuple_tuple ?_)
local macro_rules | `(tactic| tb_rel) => `(tactic| first | assumption | exact upd_same | ((refine look_old ?hl ?hn); (case hn => assumption); (case hl => tb_rel)) | ((refine Gr.tup (by assumption) _ _ ?hl); (case hl => tb_rel)))
local macro_rules | `(tactic| tb_start) => `(tactic| first
  | ((with_reducible refine' r_var ?hvar ?_); (case hvar => exact rfl))
  | with_reducible refine r_c ?_ | with_reducible refine r_op ?_ | with_reducible refine r_un ?_ | with_reducible refine r_chain ?_ | with_reducible refine r_tup ?_ | with_reducible refine r_lst ?_ | with_reducible refine r_cons ?_ | with_reducible refine r_nil ?_ | with_reducible refine r_cb ?_ | with_reducible refine r_call ?_ | with_reducible refine r_bm ?_ | with_reducible refine r_bm0 ?_ | with_reducible refine r_sl ?_ | with_reducible refine r_test ?_ | with_reducible refine r_tb ?_ | with_reducible refine r_tand ?_ | with_reducible refine r_tor ?_ | with_reducible refine r_tnot ?_ | with_reducible refine r_andV ?_ | with_reducible refine r_orV ?_ | with_reducible refine r_notV ?_ | with_reducible refine r_ife ?_ | with_reducible refine s_seq ?_ | with_reducible refine s_nextM ?_ | with_reducible refine s_next ?_ | with_reducible refine s_ret ?_ | with_reducible refine s_if ?_ | with_reducible refine s_asg ?_ | with_reducible refine s_drop ?_ | with_reducible refine s_cont ?_ | with_reducible refine s_break ?_ | with_reducible refine g_name ?_ | with_reducible refine r_I0 ?_ | with_reducible refine r_U ?_ | with_reducible refine k_bl2 ?_ | with_reducible refine r_part ?_ | with_reducible refine r_nopart ?_ | with_reducible refine if_tt ?_ | with_reducible refine if_ff ?_ | with_reducible refine if_nf ?_ | with_reducible refine if_nt ?_
  | ((with_reducible refine' r_eq ?hsc ?_); (case hsc => exact rfl)) | ((with_reducible refine' r_ne ?hsc ?_); (case hsc => exact rfl)) | ((with_reducible refine isi_g ?_); walk_at "isi") | (first | ((with_reducible refine' r_ixT ?hix ?eix ?_); (case hix => tb_rel); (case eix => first | exact at0 | exact at1 | exact at2 | rfl))) | ((with_reducible refine' if_t ?hc ?_); (case hc => decide +kernel)) | ((with_reducible refine' if_f ?hc ?_); (case hc => decide +kernel)))
local macro_rules | `(tactic| walk_at "go") => `(tactic| repeat tb_start)
local macro_rules | `(tactic| walk_at "gr") => `(tactic| first | exact Gr.refl _ _ | assumption | ((refine Gr.trans ?ga (Gr.new ?gn)); (case gn => assumption); (case ga => walk_at "gr")) | ((refine' Gr.trans ?ga ?gb); (case gb => assumption); (case ga => walk_at "gr")))
local macro_rules | `(tactic| walk_at "go2") => `(tactic| repeat (first | tb_start | (((with_reducible refine' And.intro ?hz ?_); (case hz => (refine sz10 ?_; first | decide | (simp; done) | (simp; omega))); intro p hp)) | (first | ((with_reducible refine' r_inT ?hs ?hf ?ha ?_); (case hs => first | assumption | exact SqT.of (by tb_rel)); (case hf => rfl); (case ha => first | rfl | decide +kernel | exact flat_strs)) | ((with_reducible refine' r_niT ?hs ?hf ?ha ?_); (case hs => first | assumption | exact SqT.of (by tb_rel)); (case hf => rfl); (case ha => first | rfl | decide +kernel | exact flat_strs)))))
section
variable {P : Program} {w : World} {K : PySem.W.Frag} {mg : Str → Option Value} {base : Heap}
/-! ### is_constant -/
abbrev nm_is_constant : List Str := ["value"]
theorem sc_is_constant : FnScope nm_is_constant ["value"] (defScope (topS 27)) := ⟨rfl, rfl, rfl, by decide +kernel, rfl, by decide +kernel, by decide +kernel⟩
-- slots: 0:value
theorem isI_true {v : V} {lo hi : Int} (h : isI v lo hi = true) : ∃ i, v = .int i ∧ lo ≤ i ∧ i ≤ hi := by
  cases v with
  | int i =>
    simp only [isI, Bool.and_eq_true, decide_eq_true_eq] at h
    exact ⟨i, rfl, h⟩
  | _ => cases h
theorem c_is_constant (D : DefAt K mg "is_constant" 27 ["value"]) (B : Blt mg) (G : Glo K mg) (c_is_printable : Cal P w K mg base CX0 1 "is_printable" ["value"] (spAny (fun v => ∃ s : Str, v = .str s) (fun _ _ => True)))
    (c_is_integer : Cal P w K mg base CX0 1 "is_integer" ["value", "least", "greatest"] spIsI) : Cal P w K mg base CX0 2 "is_constant" ["value"] (spAny FlS (fun v k => k = true → Cst v)) := by
  obtain ⟨t1, gLIMIT⟩ := G.limit
  obtain ⟨t2, gMOST_TEXT⟩ := G.mtext
  refine mk0 D sc_is_constant (fun vs H Q E h => by obtain ⟨_, rfl, _⟩ := h; rfl) ?_
  rintro X Q vs H E ⟨f, cdv, A, outer, s, H0, rfl⟩ hr ⟨v, rfl, fl, q⟩
  refine ⟨_, (pss_cons (ps_if (pt_val (pe_callB call_isi rfl B.isinstance_ (by decide +kernel) (pa_cons (pv 0) (pa_cons (pe_bltn (v := .ty "bool") rfl B.bool_ (by decide +kernel) rfl) pa_nil)))) (pss_one (ps_ret pe_bl)) pss_nil)
      (pss_cons (ps_if (pt_val (pe_callB call_isi rfl B.isinstance_ (by decide +kernel) (pa_cons (pv 0) (pa_cons (pe_bltn (v := .ty "str") rfl B.str_ (by decide +kernel) rfl) pa_nil)))) (pss_one (ps_ret (pe_and (pc0 c_is_printable hr (by decide) (pa_cons (pv 0) pa_nil)) (pe_one (pe_cmpR op_le (pe_callB call_len_str rfl B.len_ PySem.boot_len (pa_cons (pv 0) pa_nil)) (pe_glob (v := .int 40) rfl gMOST_TEXT ⟨_, rfl⟩) (nomark _)))))) pss_nil)
      (pss_one (ps_ret (pc0 c_is_integer hr (by decide) (pa_cons (pv 0) (pa_cons (pe_un un_neg (pe_glob (v := .int 1000000000000000000) rfl gLIMIT ⟨_, rfl⟩)) (pa_cons (pe_glob (v := .int 1000000000000000000) rfl gLIMIT ⟨_, rfl⟩) pa_nil)))))))), ?_⟩
  walk_at "K"
  cases v with
  | str s =>
    walk_at "go2"
    refine ⟨_, rfl, ⟨_, rfl⟩, fun k H' g _ => ?_⟩
    refine k_bl2 ?_
    refine if_b (fun c1 => ?_) (fun c1 => ?_)
    · walk_at "go2"
      refine ⟨_, rfl, sz10 (Nat.le_trans fl (by decide)), ?_⟩
      walk_at "go2"
      refine q _ _ g (fun z => ?_)
      have := of_decide_eq_true z
      show s.length ≤ 40
      omega
    · exact q _ _ g (fun z => by cases z)
  | int i =>
    walk_at "go2"
    refine ⟨_, _, _, rfl, trivial, q _ _ (Gr.refl _ _) (fun z => ?_)⟩
    obtain ⟨j, e, j1, j2⟩ := isI_true z
    cases e
    exact ⟨by omega, j2⟩
  | bl i =>
    walk_at "go2"
    exact q _ _ (Gr.refl _ _) (fun z => trivial)
  | non =>
    walk_at "go2"
    refine ⟨_, _, _, rfl, trivial, q _ _ (Gr.refl _ _) (fun z => ?_)⟩
    obtain ⟨j, e, j1, j2⟩ := isI_true z
    cases e
  | _ => exact fl.elim
end
end Snk
set_option Elab.async false
set_option linter.all false
set_option maxRecDepth 100000
set_option maxHeartbeats 4000000
namespace Snk
open PySem PySem.Spec PyProof.Rows L2
local macro_rules | `(tactic| walk_at "K") => `(tactic| try simp only [ws_K, ws_P, ws_w, cx_K, cx_P, cx_w])
local macro_rules | `(tactic| walk_at "isi") => `(tactic| first
  | with_reducible refine r_isB (.base (.int _)) kk_int_int ?_ | with_reducible refine r_isB (.base (.int _)) kk_int_bool ?_ | with_reducible refine r_isB (.base (.int _)) kk_int_str ?_ | with_reducible refine r_isB (.base (.int _)) kk_int_tuple ?_ | with_reducible refine r_isB (.base (.bl _)) kk_bool_int ?_ | with_reducible refine r_isB (.base (.bl _)) kk_bool_bool ?_ | with_reducible refine r_isB (.base (.bl _)) kk_bool_str ?_ | with_reducible refine r_isB (.base (.bl _)) kk_bool_tuple ?_ | with_reducible refine r_isB (.base (.str _)) kk_str_int ?_ | with_reducible refine r_isB (.base (.str _)) kk_str_bool ?_ | with_reducible refine r_isB (.base (.str _)) kk_str_str ?_ | with_reducible refine r_isB (.base (.str _)) kk_str_tuple ?_ | with_reducible refine r_isB (.base .non) kk_NoneType_int ?_ | with_reducible refine r_isB (.base .non) kk_NoneType_bool ?_ | with_reducible refine r_isB (.base .non) kk_NoneType_str ?_ | with_reducible refine r_isB (.base .non) kk_NoneType_tuple ?_ | with_reducible refine r_isB (.base (.tup (by assumption))) kk_tuple_int ?_ | with_reducible refine r_isB (.base (.tup (by assumption))) kk_tuple_bool ?_ | with_reducible refine r_isB (.base (.tup (by assumption))) kk_tuple_str ?_ | with_reducible refine r_isB (.base (.tup (by assumption))) kk_tuple_tuple ?_)
local macro_rules | `(tactic| tb_rel) => `(tactic| first | assumption | exact upd_same | ((refine look_old ?hl ?hn); (case hn => assumption); (case hl => tb_rel)) | ((refine Gr.tup (by assumption) _ _ ?hl); (case hl => tb_rel)))
local macro_rules | `(tactic| tb_start) => `(tactic| first
  | ((with_reducible refine' r_var ?hvar ?_); (case hvar => exact rfl))
  | with_reducible refine r_c ?_ | with_reducible refine r_op ?_ | with_reducible refine r_un ?_ | with_reducible refine r_chain ?_ | with_reducible refine r_tup ?_ | with_reducible refine r_lst ?_ | with_reducible refine r_cons ?_ | with_reducible refine r_nil ?_ | with_reducible refine r_cb ?_ | with_reducible refine r_call ?_ | with_reducible refine r_bm ?_ | with_reducible refine r_bm0 ?_ | with_reducible refine r_sl ?_ | with_reducible refine r_test ?_ | with_reducible refine r_tb ?_ | with_reducible refine r_tand ?_ | with_reducible refine r_tor ?_ | with_reducible refine r_tnot ?_ | with_reducible refine r_andV ?_ | with_reducible refine r_orV ?_ | with_reducible refine r_notV ?_ | with_reducible refine r_ife ?_ | with_reducible refine s_seq ?_ | with_reducible refine s_nextM ?_ | with_reducible refine s_next ?_ | with_reducible refine s_ret ?_ | with_reducible refine s_if ?_ | with_reducible refine s_asg ?_ | with_reducible refine s_drop ?_ | with_reducible refine s_cont ?_ | with_reducible refine s_break ?_ | with_reducible refine g_name ?_ | with_reducible refine r_I0 ?_ | with_reducible refine r_U ?_ | with_reducible refine k_bl2 ?_ | with_reducible refine r_part ?_ | with_reducible refine r_nopart ?_ | with_reducible refine if_tt ?_ | with_reducible refine if_ff ?_ | with_reducible refine if_nf ?_ | with_reducible refine if_nt ?_
  | ((with_reducible refine' r_eq ?hsc ?_); (case hsc => exact rfl)) | ((with_reducible refine' r_ne ?hsc ?_); (case hsc => exact rfl)) | ((with_reducible refine isi_g ?_); walk_at "isi") | (first | ((with_reducible refine' r_ixT ?hix ?eix ?_); (case hix => tb_rel); (case eix => first | exact at0 | exact at1 | exact at2 | rfl))) | ((with_reducible refine' if_t ?hc ?_); (case hc => decide +kernel)) | ((with_reducible refine' if_f ?hc ?_); (case hc => decide +kernel)))
local macro_rules | `(tactic| walk_at "go") => `(tactic| repeat tb_start)
local macro_rules | `(tactic| walk_at "gr") => `(tactic| first | exact Gr.refl _ _ | assumption | ((refine Gr.trans ?ga (Gr.new ?gn)); (case gn => assumption); (case ga => walk_at "gr")) | ((refine' Gr.trans ?ga ?gb); (case gb => assumption); (case ga => walk_at "gr")))
local macro_rules | `(tactic| walk_at "go2") => `(tactic| repeat (first | tb_start | (((with_reducible refine' And.intro ?hz ?_); (case hz => (refine sz10 ?_; first | decide | (simp; done) | (simp; omega))); intro p hp)) | (first | ((with_reducible refine' r_inT ?hs ?hf ?ha ?_); (case hs => first | assumption | exact SqT.of (by tb_rel)); (case hf => rfl); (case ha => first | rfl | decide +kernel | exact flat_strs)) | ((with_reducible refine' r_niT ?hs ?hf ?ha ?_); (case hs => first | assumption | exact SqT.of (by tb_rel)); (case hf => rfl); (case ha => first | rfl | decide +kernel | exact flat_strs)))))
section
variable {P : Program} {w : World} {K : PySem.W.Frag} {mg : Str → Option Value} {base : Heap}
/-! ### is_instruction -/
/-- a row of the law's code -/
structure RowOk (h : Str) (r : List V) : Prop where
  len : r.length ≤ 1
  fl : ∀ v ∈ r, FlS v
  wd : h = "word" → ∀ s, V.str s ∈ r → s ∈ WRD
def ItemV (H : Hp) (v : V) : Prop := v = .int 7 ∨ ∃ a h r, v = .ref a ∧ H a = some (.tup (.str h :: r)) ∧ RowOk h r
theorem ItemV.gr {x : Addr → Prop} {H H' : Hp} {v : V} (g : Gr x H H') (h : ItemV H v) : ItemV H' v := by
  rcases h with h | ⟨a, hd, r, e, k, o⟩
  · exact .inl h
  · exact .inr ⟨a, hd, r, e, g.tup _ _ k, o⟩
/-- an instruction as it lies -/
def InsV (H : Hp) (v : V) (i : Ins) : Prop := ∃ a, v = .ref a ∧ H a = some (.tup i.row)
theorem InsV.gr {x : Addr → Prop} {H H' : Hp} {v : V} {i : Ins} (g : Gr x H H') (h : InsV H v i) : InsV H' v i := by
  obtain ⟨a, e, k⟩ := h
  exact ⟨a, e, g.tup _ _ k⟩
theorem pairs_mem {h : Str} (c : inV (.str h) PAIRSV = true) : ∃ o : POp, h = o.nm := by
  have e : PAIRSV = (["add", "sub", "mul", "min", "max", "less", "same", "and", "or", "join"] : List Str).map V.str := rfl
  rw [e, inV_str] at c
  have := of_decide_eq_true c
  simp only [List.mem_cons, List.not_mem_nil, or_false] at this
  rcases this with h | h | h | h | h | h | h | h | h | h
  · exact ⟨.add, h⟩
  · exact ⟨.sub, h⟩
  · exact ⟨.mul, h⟩
  · exact ⟨.mn, h⟩
  · exact ⟨.mx, h⟩
  · exact ⟨.less, h⟩
  · exact ⟨.same, h⟩
  · exact ⟨.and_, h⟩
  · exact ⟨.or_, h⟩
  · exact ⟨.join, h⟩
theorem len_1 (x : V) : (([x] : List V).length : Int) = 1 := rfl
theorem len_2 (x y : V) : (([x, y] : List V).length : Int) = 2 := rfl
theorem len1 : ∀ {r : List V}, r.length ≤ 1 → r = [] ∨ ∃ x, r = [x]
  | [], _ => .inl rfl
  | [x], _ => .inr ⟨x, rfl⟩
  | _ :: _ :: _, h => by simp at h
theorem in_mem {h : Str} {l : List Str} {xs : List V} (e : xs = l.map V.str) (c : inV (.str h) xs = true) : h ∈ l := by
  rw [e, inV_str] at c
  exact of_decide_eq_true c
abbrev nm_is_instruction : List Str := ["value", "head"]
theorem sc_is_instruction : FnScope nm_is_instruction ["value"] (defScope (topS 28)) := ⟨rfl, rfl, rfl, by decide +kernel, rfl, by decide +kernel, by decide +kernel⟩
-- slots: 0:value 1:head
set_option maxHeartbeats 16000000 in
theorem c_is_instruction (D : DefAt K mg "is_instruction" 28 ["value"]) (B : Blt mg) (G : Glo K mg) (c_is_constant : Cal P w K mg base CX0 2 "is_constant" ["value"] (spAny FlS (fun v k => k = true → Cst v)))
    (c_is_word : Cal P w K mg base CX0 1 "is_word" ["value"] (spAny FlS (fun v k => k = true → ∃ s : Str, v = .str s))) (c_is_integer : Cal P w K mg base CX0 1 "is_integer" ["value", "least", "greatest"] spIsI) :
    Cal P w K mg base CX0 3 "is_instruction" ["value"] (fun vs H Q _ => ∃ v, vs = [v] ∧ ItemV H v ∧ ∀ k H', Gr no H H' → (k = true → ∃ i, InsV H' v i ∧ InsOk i) → Q (.bl k) H') := by
  obtain ⟨aP, gPAIRS, hP⟩ := G.pairs
  obtain ⟨t1, gFIELD_LIMIT⟩ := G.flimit
  obtain ⟨t2, gMOST_TEXT⟩ := G.mtext
  refine mk0 D sc_is_instruction (fun vs H Q E h => by obtain ⟨_, rfl, _⟩ := h; rfl) ?_
  rintro X Q vs H E ⟨f, cdv, A, outer, s, H0, rfl⟩ hr ⟨v, rfl, it, q⟩
  refine ⟨_, (pss_cons (ps_if (PW.pt (pw_or (pt_not (pt_val (pe_callB call_isi rfl B.isinstance_ (by decide +kernel) (pa_cons (pv 0) (pa_cons (pe_bltn (v := .ty "tuple") rfl B.tuple_ (by decide +kernel) rfl) pa_nil))))) (pw_or (pt_cmpR op_eq (pe_callB call_len_seq rfl B.len_ PySem.boot_len (pa_cons (pv 0) pa_nil)) pe_int (nomark _)) (pw_or1 (pt_not (pt_val (pe_callB call_isi rfl B.isinstance_ (by decide +kernel) (pa_cons (pe_ix ix_tup (pv 0) pe_int (fun _ _ => rfl)) (pa_cons (pe_bltn (v := .ty "str") rfl B.str_ (by decide +kernel) rfl) pa_nil))))))))) (pss_one (ps_ret pe_bl)) pss_nil)
      (pss_cons (ps_set (i := 1) sc_is_instruction.nd rfl (Or.inl rfl) (pe_ix ix_tup (pv 0) pe_int (fun _ _ => rfl)))
      (pss_cons (ps_if (PW.pt (pw_or (pt_cmpR op_in_seq (pv 1) (pe_glob (v := .ref aP) rfl gPAIRS rfl) (by rfl)) (pw_or1 (pt_cmpR op_in_seq (pv 1) (pe_tup (pa_cons pe_str (pa_cons pe_str pa_nil))) (by rfl))))) (pss_one (ps_ret (pe_cmpR op_eq (pe_callB call_len_seq rfl B.len_ PySem.boot_len (pa_cons (pv 0) pa_nil)) pe_int (nomark _)))) pss_nil)
      (pss_cons (ps_if (pt_cmpR op_ne (pe_callB call_len_seq rfl B.len_ PySem.boot_len (pa_cons (pv 0) pa_nil)) pe_int (nomark _)) (pss_one (ps_ret pe_bl)) pss_nil)
      (pss_cons (ps_if (pt_cmpR op_eq (pv 1) pe_str (nomark _)) (pss_one (ps_ret (pc0 c_is_constant hr (by decide) (pa_cons (pe_ix ix_tup (pv 0) pe_int (fun _ _ => rfl)) pa_nil)))) pss_nil)
      (pss_cons (ps_if (pt_cmpR op_eq (pv 1) pe_str (nomark _)) (pss_one (ps_ret (pc0 c_is_word hr (by decide) (pa_cons (pe_ix ix_tup (pv 0) pe_int (fun _ _ => rfl)) pa_nil)))) pss_nil)
      (pss_cons (ps_if (pt_cmpR op_in_seq (pv 1) (pe_tup (pa_cons pe_str (pa_cons pe_str (pa_cons pe_str (pa_cons pe_str pa_nil))))) (by rfl)) (pss_one (ps_ret (pc0 c_is_integer hr (by decide) (pa_cons (pe_ix ix_tup (pv 0) pe_int (fun _ _ => rfl)) (pa_cons pe_int (pa_cons (pe_glob (v := .int 1000000000) rfl gFIELD_LIMIT ⟨_, rfl⟩) pa_nil)))))) pss_nil)
      (pss_cons (ps_if (pt_cmpR op_in_seq (pv 1) (pe_tup (pa_cons pe_str (pa_cons pe_str pa_nil))) (by rfl)) (pss_one (ps_ret (pc0 c_is_integer hr (by decide) (pa_cons (pe_ix ix_tup (pv 0) pe_int (fun _ _ => rfl)) (pa_cons pe_int (pa_cons (pe_glob (v := .int 1000000000) rfl gFIELD_LIMIT ⟨_, rfl⟩) pa_nil)))))) pss_nil)
      (pss_one (ps_ret (pe_and (pe_cmpR op_eq (pv 1) pe_str (nomark _)) (pe_one (pc0 c_is_integer hr (by decide) (pa_cons (pe_ix ix_tup (pv 0) pe_int (fun _ _ => rfl)) (pa_cons pe_int (pa_cons (pe_glob (v := .int 40) rfl gMOST_TEXT ⟨_, rfl⟩) pa_nil)))))))))))))))), ?_⟩
  walk_at "K"
  rcases it with rfl | ⟨a, h, r, rfl, ha, ok⟩
  · walk_at "go2"
    exact q _ _ (Gr.refl _ _) (fun z => by cases z)
  · have hs : SqT K H a (.str h :: r) := SqT.of ha
    rcases len1 ok.len with rfl | ⟨x, rfl⟩
    · walk_at "go2"
      refine ⟨a, _, rfl, .inr (SqT.of ha), ?_⟩; rw [len_1]
      walk_at "go2"
      refine r_inT (hP H) rfl (by decide +kernel) ?_
      walk_at "go2"
      refine if_b (fun c1 => ?_) (fun c1 => ?_)
      · obtain ⟨o, rfl⟩ := pairs_mem c1
        walk_at "go2"
        refine ⟨a, _, rfl, .inr (SqT.of ha), ?_⟩; rw [len_1]
        walk_at "go2"
        exact q _ _ (Gr.refl _ _) (fun _ => ⟨.pair o, ⟨a, rfl, ha⟩, trivial⟩)
      · walk_at "go2"
        refine if_b (fun c2 => ?_) (fun c2 => ?_)
        · walk_at "go2"
          refine ⟨a, _, rfl, .inr (SqT.of (by tb_rel)), ?_⟩; rw [len_1]
          walk_at "go2"
          refine q _ _ (by walk_at "gr") (fun _ => ?_)
          have m := in_mem (l := ["not", "pick"]) rfl c2
          simp only [List.mem_cons, List.not_mem_nil, or_false] at m
          rcases m with rfl | rfl
          · exact ⟨.not, ⟨a, rfl, by tb_rel⟩, trivial⟩
          · exact ⟨.pick, ⟨a, rfl, by tb_rel⟩, trivial⟩
        · walk_at "go2"
          refine ⟨a, _, rfl, .inr (SqT.of (by tb_rel)), ?_⟩; rw [len_1]
          walk_at "go2"
          exact q _ _ (by walk_at "gr") (fun z => by cases z)
    · have fx : FlS x := ok.fl x (by simp)
      walk_at "go2"
      refine ⟨a, _, rfl, .inr (SqT.of ha), ?_⟩; rw [len_2]
      walk_at "go2"
      refine r_inT (hP H) rfl (by decide +kernel) ?_
      walk_at "go2"
      refine if_b (fun c1 => ?_) (fun c1 => ?_)
      · walk_at "go2"
        refine ⟨a, _, rfl, .inr (SqT.of ha), ?_⟩; rw [len_2]
        walk_at "go2"
        exact q _ _ (Gr.refl _ _) (fun z => by cases z)
      · walk_at "go2"
        refine if_b (fun c2 => ?_) (fun c2 => ?_)
        · walk_at "go2"
          refine ⟨a, _, rfl, .inr (SqT.of (by tb_rel)), ?_⟩; rw [len_2]
          walk_at "go2"
          exact q _ _ (by walk_at "gr") (fun z => by cases z)
        · walk_at "go2"
          refine ⟨a, _, rfl, .inr (SqT.of (by tb_rel)), ?_⟩; rw [len_2]
          walk_at "go2"
          refine if_s (fun e1 => ?_) (fun e1 => ?_)
          · walk_at "go2"
            refine ⟨_, rfl, fx, fun k H' g kk => q _ _ (Gr.trans (by walk_at "gr") g) (fun z => ?_)⟩
            exact ⟨.push x, ⟨a, rfl, by subst e1; tb_rel⟩, kk z⟩
          · walk_at "go2"
            refine if_s (fun e2 => ?_) (fun e2 => ?_)
            · walk_at "go2"
              refine ⟨_, rfl, fx, fun k H' g kk => q _ _ (Gr.trans (by walk_at "gr") g) (fun z => ?_)⟩
              obtain ⟨s, rfl⟩ := kk z
              exact ⟨.word s, ⟨a, rfl, by subst e2; tb_rel⟩, ok.wd e2 s (by simp)⟩
            · walk_at "go2"
              refine if_b (fun c3 => ?_) (fun c3 => ?_)
              · walk_at "go2"
                refine ⟨_, _, _, rfl, fx.fl, q _ _ (by walk_at "gr") (fun z => ?_)⟩
                obtain ⟨j, rfl, j1, j2⟩ := isI_true z
                have m := in_mem (l := ["load", "store", "jump", "unless"]) rfl c3
                simp only [List.mem_cons, List.not_mem_nil, or_false] at m
                rcases m with rfl | rfl | rfl | rfl
                · exact ⟨.load j, ⟨a, rfl, by tb_rel⟩, j1, j2⟩
                · exact ⟨.store j, ⟨a, rfl, by tb_rel⟩, j1, j2⟩
                · exact ⟨.jump j, ⟨a, rfl, by tb_rel⟩, j1, j2⟩
                · exact ⟨.unless j, ⟨a, rfl, by tb_rel⟩, j1, j2⟩
              · walk_at "go2"
                refine if_b (fun c4 => ?_) (fun c4 => ?_)
                · walk_at "go2"
                  refine ⟨_, _, _, rfl, fx.fl, q _ _ (by walk_at "gr") (fun z => ?_)⟩
                  obtain ⟨j, rfl, j1, j2⟩ := isI_true z
                  have m := in_mem (l := ["div", "mod"]) rfl c4
                  simp only [List.mem_cons, List.not_mem_nil, or_false] at m
                  rcases m with rfl | rfl
                  · exact ⟨.div j, ⟨a, rfl, by tb_rel⟩, j1, j2⟩
                  · exact ⟨.mod j, ⟨a, rfl, by tb_rel⟩, j1, j2⟩
                · walk_at "go2"
                  refine if_s (fun e5 => ?_) (fun e5 => ?_)
                  · walk_at "go2"
                    refine ⟨_, _, _, rfl, fx.fl, q _ _ (by walk_at "gr") (fun z => ?_)⟩
                    obtain ⟨j, rfl, j1, j2⟩ := isI_true z
                    exact ⟨.cut j, ⟨a, rfl, by subst e5; tb_rel⟩, j1, j2⟩
                  · exact q _ _ (by walk_at "gr") (fun z => by cases z)
end
end Snk
set_option Elab.async false
set_option linter.all false
set_option maxRecDepth 100000
set_option maxHeartbeats 4000000
namespace Snk
open PySem PySem.Spec PyProof.Rows L2
local macro_rules | `(tactic| walk_at "K") => `(tactic| try simp only [ws_K, ws_P, ws_w, cx_K, cx_P, cx_w])
local macro_rules | `(tactic| walk_at "isi") => `(tactic| first
  | with_reducible refine r_isB (.base (.int _)) kk_int_int ?_ | with_reducible refine r_isB (.base (.int _)) kk_int_bool ?_ | with_reducible refine r_isB (.base (.int _)) kk_int_str ?_ | with_reducible refine r_isB (.base (.int _)) kk_int_tuple ?_ | with_reducible refine r_isB (.base (.bl _)) kk_bool_int ?_ | with_reducible refine r_isB (.base (.bl _)) kk_bool_bool ?_ | with_reducible refine r_isB (.base (.bl _)) kk_bool_str ?_ | with_reducible refine r_isB (.base (.bl _)) kk_bool_tuple ?_ | with_reducible refine r_isB (.base (.str _)) kk_str_int ?_ | with_reducible refine r_isB (.base (.str _)) kk_str_bool ?_ | with_reducible refine r_isB (.base (.str _)) kk_str_str ?_ | with_reducible refine r_isB (.base (.str _)) kk_str_tuple ?_ | with_reducible refine r_isB (.base .non) kk_NoneType_int ?_ | with_reducible refine r_isB (.base .non) kk_NoneType_bool ?_ | with_reducible refine r_isB (.base .non) kk_NoneType_str ?_ | with_reducible refine r_isB (.base .non) kk_NoneType_tuple ?_ | with_reducible refine r_isB (.base (.tup (by assumption))) kk_tuple_int ?_ | with_reducible refine r_isB (.base (.tup (by assumption))) kk_tuple_bool ?_ | with_reducible refine r_isB (.base (.tup (by assumption))) kk_tuple_str ?_ | with_reducible refine r_isB (.base (.tup (by assumption))) kk_tuple_tuple ?_)
local macro_rules | `(tactic| tb_rel) => `(tactic| first | assumption | exact upd_same | ((refine look_old ?hl ?hn); (case hn => assumption); (case hl => tb_rel)) | ((refine Gr.tup (by assumption) _ _ ?hl); (case hl => tb_rel)))
local macro_rules | `(tactic| tb_start) => `(tactic| first
  | ((with_reducible refine' r_var ?hvar ?_); (case hvar => exact rfl))
  | with_reducible refine r_c ?_ | with_reducible refine r_op ?_ | with_reducible refine r_un ?_ | with_reducible refine r_chain ?_ | with_reducible refine r_tup ?_ | with_reducible refine r_lst ?_ | with_reducible refine r_cons ?_ | with_reducible refine r_nil ?_ | with_reducible refine r_cb ?_ | with_reducible refine r_call ?_ | with_reducible refine r_bm ?_ | with_reducible refine r_bm0 ?_ | with_reducible refine r_sl ?_ | with_reducible refine r_test ?_ | with_reducible refine r_tb ?_ | with_reducible refine r_tand ?_ | with_reducible refine r_tor ?_ | with_reducible refine r_tnot ?_ | with_reducible refine r_andV ?_ | with_reducible refine r_orV ?_ | with_reducible refine r_notV ?_ | with_reducible refine r_ife ?_ | with_reducible refine s_seq ?_ | with_reducible refine s_nextM ?_ | with_reducible refine s_next ?_ | with_reducible refine s_ret ?_ | with_reducible refine s_if ?_ | with_reducible refine s_asg ?_ | with_reducible refine s_drop ?_ | with_reducible refine s_cont ?_ | with_reducible refine s_break ?_ | with_reducible refine g_name ?_ | with_reducible refine r_I0 ?_ | with_reducible refine r_U ?_ | with_reducible refine k_bl2 ?_ | with_reducible refine r_part ?_ | with_reducible refine r_nopart ?_ | with_reducible refine if_tt ?_ | with_reducible refine if_ff ?_ | with_reducible refine if_nf ?_ | with_reducible refine if_nt ?_
  | ((with_reducible refine' r_eq ?hsc ?_); (case hsc => exact rfl)) | ((with_reducible refine' r_ne ?hsc ?_); (case hsc => exact rfl)) | ((with_reducible refine isi_g ?_); walk_at "isi") | (first | ((with_reducible refine' r_ixT ?hix ?eix ?_); (case hix => tb_rel); (case eix => first | exact at0 | exact at1 | exact at2 | rfl))) | ((with_reducible refine' if_t ?hc ?_); (case hc => decide +kernel)) | ((with_reducible refine' if_f ?hc ?_); (case hc => decide +kernel)))
local macro_rules | `(tactic| walk_at "go") => `(tactic| repeat tb_start)
local macro_rules | `(tactic| walk_at "gr") => `(tactic| first | exact Gr.refl _ _ | assumption | ((refine Gr.trans ?ga (Gr.new ?gn)); (case gn => assumption); (case ga => walk_at "gr")) | ((refine' Gr.trans ?ga ?gb); (case gb => assumption); (case ga => walk_at "gr")))
local macro_rules | `(tactic| walk_at "go2") => `(tactic| repeat (first | tb_start | (((with_reducible refine' And.intro ?hz ?_); (case hz => (refine sz10 ?_; first | decide | (simp; done) | (simp; omega))); intro p hp)) | (first | ((with_reducible refine' r_inT ?hs ?hf ?ha ?_); (case hs => first | assumption | exact SqT.of (by tb_rel)); (case hf => rfl); (case ha => first | rfl | decide +kernel | exact flat_strs)) | ((with_reducible refine' r_niT ?hs ?hf ?ha ?_); (case hs => first | assumption | exact SqT.of (by tb_rel)); (case hf => rfl); (case ha => first | rfl | decide +kernel | exact flat_strs)))))
section
variable {P : Program} {w : World} {K : PySem.W.Frag} {mg : Str → Option Value} {base : Heap}
/-! ### constant_bounds -/
abbrev nm_constant_bounds : List Str := ["value"]
theorem sc_constant_bounds : FnScope nm_constant_bounds ["value"] (defScope (topS 33)) := ⟨rfl, rfl, rfl, by decide +kernel, rfl, by decide +kernel, by decide +kernel⟩
-- slots: 0:value
def spCB : Sp := fun vs H Q _ => ∃ v, vs = [v] ∧ Cst v ∧ ∀ H' u c, Gr no H H' → BdV H' u c → BdOk c → Gam c v → Q u H'
theorem c_constant_bounds (D : DefAt K mg "constant_bounds" 33 ["value"]) (B : Blt mg) (c_literal_bounds : Cal P w K mg base CX0 1 "literal_bounds" ["head", "value"] spLit) : Cal P w K mg base CX0 2 "constant_bounds" ["value"] spCB := by
  refine mk0 D sc_constant_bounds (fun vs H Q E h => by obtain ⟨_, rfl, _⟩ := h; rfl) ?_
  rintro X Q vs H E ⟨f, cdv, A, outer, s, H0, rfl⟩ hr ⟨v, rfl, fl, q⟩
  refine ⟨_, (pss_cons (ps_if (pt_val (pe_callB call_isi rfl B.isinstance_ (by decide +kernel) (pa_cons (pv 0) (pa_cons (pe_bltn (v := .ty "bool") rfl B.bool_ (by decide +kernel) rfl) pa_nil)))) (pss_one (ps_ret (pc0 c_literal_bounds hr (by decide) (pa_cons pe_str (pa_cons (pv 0) pa_nil))))) pss_nil)
      (pss_cons (ps_if (pt_val (pe_callB call_isi rfl B.isinstance_ (by decide +kernel) (pa_cons (pv 0) (pa_cons (pe_bltn (v := .ty "str") rfl B.str_ (by decide +kernel) rfl) pa_nil)))) (pss_one (ps_ret (pc0 c_literal_bounds hr (by decide) (pa_cons pe_str (pa_cons (pv 0) pa_nil))))) pss_nil)
      (pss_one (ps_ret (pc0 c_literal_bounds hr (by decide) (pa_cons pe_str (pa_cons (pv 0) pa_nil))))))), ?_⟩
  walk_at "K"
  cases v with
  | str s =>
    walk_at "go2"
    exact ⟨_, _, rfl, .text fl, q⟩
  | int i =>
    walk_at "go2"
    exact ⟨_, _, rfl, .int fl, q⟩
  | bl i =>
    walk_at "go2"
    exact ⟨_, _, rfl, .flag, q⟩
  | _ => exact fl.elim
end
end Snk
set_option Elab.async false
set_option linter.all false
set_option maxRecDepth 100000
set_option maxHeartbeats 4000000
/-! # BadCode(index, reason): its __init__ says super().__init__(index, reason), then keeps both -/
namespace PySem
namespace BadX
open PySem.W PySem.Calls PyProof.Rows PySem.HandSPX
/-- what the written part says of BadCode, at C, and of its __init__, at fI -/
structure BadTxt (P : Program) (K : Frag) (mg : Str → Option Value) (C fI : Addr) : Prop where
  gC : mg "BadCode" = some (.ref C)
  cls : ∃ nm q N bs bm sn sub ab col dd k0 k1 k2 k3 k5, K.lookup C = some (excClassObj nm q C N bs bm true sn sub ab col dd k0 k1 k2 k3 k5 "ValueError.__new__") ∧ refsVE bm = true ∧ alongIn K "__init__" bm = some (some (.builtin "ValueError.__init__"))
  sa : findIn K (.ref C) "__setattr__" = some (some (.builtin "object.__setattr__"))
  noI : findIn K (.ref C) "index" = some none
  noR : findIn K (.ref C) "reason" = some none
  iC : findIn K (.ref C) "__init__" = some (some (.ref fI))
  tC : typeIn K (.ref fI) = some (.type "function")
  kC : keepIn K (.ref C) = true
  exC : subIn K (.ref C) (.type "BaseException") = some true
  veC : subIn K (.ref C) (.type "ValueError") = some true
  tyC : typeIn K (.ref C) = some (.type "type")
  te : exmOne K (.ref C) (.ref C) = some true
  opq : nsIn K cStatics "thirdparty.any" = some none
  sup : mg "super" = none
  top : (P.main.scope.names.lookup ("super" : Str)).isSome = false
  fn : ∃ (oc : Value) (od : Option Addr) (kV doc pm : Value) (an : Option Addr) (cda cc : Addr) (ct : Value) (osl : Array (Option Value)),
    K.lookup fI = some ⟨oc, od, .func (ksFn "__init__" "BadCode.__init__" iA iB iS .none kV doc pm an (.ref cda) ct cc), osl⟩ ∧ codeIn K (.ref cda) "BadCode.__init__" = true ∧
      (∃ (ccl : Value) (cdd : Option Addr) (vs : Array Value) (ccs : Array (Option Value)) (file : Str) (tf : Tok), K.lookup cda = some ⟨ccl, cdd, .fields vs, ccs⟩ ∧ vs[2]? = some (.str file tf) ∧ ((P.main.file : Str) == file) = true) ∧
      ∃ (cl : Value) (cld : Option Addr) (csl : Array (Option Value)), K.lookup cc = some ⟨cl, cld, .cell (some (.ref C)), csl⟩
theorem le_size {n : Nat} (h : n ≤ 1000) : n ≤ sizeLine := by
  rw [sizeLine_eq]
  omega
/-- what __init__ leaves of a fresh exception at x -/
structure InitEnd (h h' : Heap) (x C dx t1 : Addr) : Prop where
  keep : ∀ b o, b ≠ x → h.get? b = some o → h'.get? b = some o
  obj : h'.get? x = some { cls := .ref C, dict := some dx, data := .fields #[.ref t1, .none, .none, .none, .bool false, .none] }
section
variable {prog : Program} {w : World} {A : Around} {E : Value → Shared → Prop} {R : Result → Shared → Prop} {s : Shared} {K : Frag} {mg : Str → Option Value} {C fI : Addr} {base : Heap}
theorem ldX {M : Model} {s : Shared} {name : Str} {scope : Scope} {L a cc : Addr} {cd : Value} {m : Str → Option Value} {x : Str} {pos : Pos} {v : Value} {Q : Value → Shared → Prop} {A : Around} {E : Value → Shared → Prop} (hn : s.heap.Ns L m) (hv : m x = some v) (h : Q v s)
    (hk : scope.kind = .function) (hl : scope.names.lookup x = some .local) (hd : (x == ("__debug__" : Str)) = false := by decide) :
    wpAny M A (eval (.Name x pos) (ksEnv name scope L a cd cc)) Q E s := wpAny_Name (wpAny_loadName_local hk hl hn hv h) hd
/-- the bound ValueError.__init__ called on a fresh exception -/
theorem mw_call {u x t0 : Addr} {rest : List Value} {Q : Value → Shared → Prop} {nm q : Str} {N : Addr} {bs bm : List Value} {sn : List Str} {sub : List Value} {ab : Bool} {col : Option Bool} {dd : Option Addr} {k0 k1 k2 k3 k5 : Option Value}
    (hu : s.heap.get? u = some (kxs_mw "ValueError.__init__" x)) (hC : s.heap.get? C = some (excClassObj nm q C N bs bm true sn sub ab col dd k0 k1 k2 k3 k5 "ValueError.__new__")) (he : s.heap.get? x = some (excO C t0)) (hz : rest.length ≤ sizeLine)
    (h : ∀ h' t1, (∀ b o, b ≠ x → s.heap.get? b = some o → h'.get? b = some o) → h'.get? x = some (excO C t1) → Q .none { s with heap := h' }) : wpAny (model prog w) A (call (.ref u) rest) Q E s := by
  obtain ⟨hh, g, d, tk, os⟩ := s
  refine wpAny_call (codeAny_of_tree ?_)
  show wpAny _ A.in1 (callAny (.ref u) ⟨rest, []⟩) _ _ _
  simp only [callAny]
  refine wpAny_bind (wpAny_load hu ?_)
  simp only [kxs_mw, show (Value.type "method-wrapper" == Value.type "method" || Value.type "method-wrapper" == Value.type "builtin_function_or_method" || Value.type "method-wrapper" == Value.type "method-wrapper") = true by decide, if_true]
  refine KFB.if_so (by decide) ?_
  refine wpAny_bind (check_bound_init F.excBase_ValueError.toExcCallFacts hC he rfl ?_)
  refine wpAny_bind (wpAny_pure (wpAny_pure ?_))
  refine ⟨plainId_quiet F.excBase_ValueError.init.plain _, codeAny_builtin F.excBase_ValueError.initEntry ?_⟩
  exact exc_init_tree (cls := .ref C) (t0 := t0) (dv := none) (c2 := .none) (c3 := .none) (b4 := .bool false) he hz fun h' k e1 _ => h h' _ k e1
theorem bad_init (T : BadTxt prog K mg C fI) (MM : L2.Mod K mg base) {x t0 : Addr} {v1 v2 : Value} (hb : ∀ b o, base.get? b = some o → s.heap.get? b = some o) (hx : s.heap.get? x = some (excO C t0)) (hnx : base.get? x = none) (hroom : A.depth < recursionLimit)
    (hq : ∀ h' tk dx t1, InitEnd s.heap h' x C dx t1 → R (.ok (.ret .none)) { s with heap := h', toks := tk }) :
    codeAny (model prog w) A (.call (.ref fI) ⟨[.ref x, v1, v2], []⟩) R s := by
  obtain ⟨oc, od, kV, doc, pm, an, cda, cc, ct, osl, ho, hcd, ⟨ccl, cdd, vs, ccs, file, tf, hcode, hvs, hfile⟩, cl, cld, csl, hcell⟩ := T.fn
  obtain ⟨nm, q, N, bs, bm, sn, sub, ab, col, dd, k0, k1, k2, k3, k5, hC, hbm, hal⟩ := T.cls
  have X0 : K.In s.heap := MM.kin.keeps hb
  have hcl : clsIn K C = some { name := nm, bases := bs, mro := .ref C :: bm, ns := N, qualname := q, hasDict := true, slotNames := sn, subclasses := sub, abstract := ab, collection := col, hasDel := false } := by unfold clsIn; rw [hC] <;> rfl
  refine ks_codeAny_call_defAt (fd := ksFn "__init__" "BadCode.__init__" iA iB iS .none kV doc pm an (.ref cda) ct cc) (body := iB) (binds := [("self", .ref x), ("index", v1), ("reason", v2)]) hroom (X0 _ _ ho) rfl (MM.nolimit.keeps hb) (codeRec_of X0 hcd) rfl (BindsTo.of_eq (by first | rfl | with_unfolding_all rfl)) (show ∀ x ∈ iS.names, x.2 ≠ .cell by decide +kernel) ?_ (fun h₁ hn k => ?_) rfl rfl rfl
  · intro y hy
    simp only [List.mem_cons, List.not_mem_nil, or_false] at hy
    rcases hy with rfl | rfl | rfl <;> rfl
  have X₁ : K.In h₁ := X0.keeps k
  have hx₁ := k _ _ hx
  have hb₁ : ∀ b o, base.get? b = some o → h₁.get? b = some o := fun b o e => k b o (hb b o e)
  obtain ⟨mb, hmb, hmbv⟩ := MM.blt
  have hC₁ := X₁ _ _ hC
  have hxC : x ≠ C := fun z => by
    have e1 : base.get? C = some _ := MM.kin _ _ hC
    rw [← z, hnx] at e1
    cases e1
  have hdC : ∃ oD, h₁.get? C = some oD ∧ oD.data = .cls { name := nm, bases := bs, mro := .ref C :: bm, ns := N, qualname := q, hasDict := true, slotNames := sn, subclasses := sub, abstract := ab, collection := col, hasDel := false } := ⟨_, hC₁, rfl⟩
  show wpAt _ _ _ (execs iB _) _ _ _
  refine ks_wpAt_execs_cons (ks_wpAt_Expr_any (ks_wpAt_MethodCall (pl := pure false) ?_))
  refine ks_wpAt_super_base (env := ksEnv "BadCode.__init__" iS s.heap.objs.size fI (.ref cda) cc) rfl rfl rfl rfl (X₁ _ _ ho) rfl rfl rfl (X₁ _ _ hcode) rfl hvs hfile T.top ?_
  refine ks_loadName_global rfl rfl (loadGlobal_builtin (env := ksEnv "BadCode.__init__" iS s.heap.objs.size fI (.ref cda) cc) (MM.glob.keeps hb₁) T.sup (hmb.keeps hb₁) ((hmbv _ (by decide +kernel)).trans (by rfl)) ⟨rfl, ?_⟩)
  refine wpAny_loadName_free rfl rfl rfl ⟨_, X₁ _ _ hcell, rfl⟩ ?_
  refine wpAny_loadName_local rfl rfl hn rfl ?_
  refine ks_wpAny_isType_cls hC₁ rfl ⟨rfl, ?_⟩
  refine ks_wpAny_call_super hC₁ rfl hx₁ rfl (fun c e => by cases e) ?_ (fun h₂ e₂ k₂ => ?_)
  · exact looks_mroIn X₁ (by unfold mroIn; rw [hcl]; simp)
  -- getMethod
  have X₂ : K.In h₂ := X₁.keeps k₂
  have hx₂ := k₂ _ _ hx₁
  have I₂ : InstAt h₂ x (excO C t0) C none := ⟨hx₂, rfl, rfl, trivial⟩
  refine kxs_getMethod kxs_ValueError e₂ (looks_opaque X₂ T.opq) (l₀ := .ref C :: bm) ((looks_clsIn X₂ hcl).andThen .now) (by simp [List.dropWhile_cons]) X₂ hal (I₂.type.andThen (looks_subIn X₂ T.veC)) hxC (by decide) ?_
  have hu := Heap.get?_push_at (h := h₂) (o := kxs_mw "ValueError.__init__" x) rfl rfl
  have k₃ : ∀ b o, h₁.get? b = some o → (h₂.push (kxs_mw "ValueError.__init__" x)).get? b = some o := fun b o e => Heap.get?_push_of_some _ (k₂ _ _ e)
  have hn₃ : (h₂.push (kxs_mw "ValueError.__init__" x)).Ns s.heap.objs.size (fun y => List.lookup y [(("reason" : Str), v2), ("index", v1), ("self", .ref x)]) := hn.keeps k₃
  show wpAny _ _ (callWith _ (.ref h₂.objs.size) [] _ []) _ _ _
  refine kxs_callWith (i := "ValueError.__init__") (x := x) (by rfl) (evalArgs_plain (spliced_cons (ldX hn₃ rfl (spliced_cons (ldX hn₃ rfl (spliced_nil ⟨hu, ?_⟩) rfl rfl)) rfl rfl)))
  refine mw_call hu (k₃ _ _ hC₁) (k₃ _ _ hx₁) (le_size (by simp)) (fun h₄ t1 k₄ hx₄ => ?_)
  have hKx : ∀ a o, K.lookup a = some o → a ≠ x := fun a o e z => by
    have e1 : base.get? a = some o := MM.kin _ _ e
    rw [z, hnx] at e1
    cases e1
  have hLx : s.heap.objs.size ≠ x := Nat.ne_of_gt (Heap.lt_size hx)
  have nsk : ∀ {h h' : Heap} {m : Str → Option Value}, h.Ns s.heap.objs.size m → (∀ b o, b ≠ x → h.get? b = some o → h'.get? b = some o) → h'.Ns s.heap.objs.size m := fun n kk => by
    obtain ⟨oL, es, ep, hL, r⟩ := n
    exact ⟨oL, es, ep, kk _ _ hLx hL, r⟩
  have X₄ : K.In h₄ := fun a o e => k₄ a o (hKx a o e) ((X₂.keeps fun b o e => Heap.get?_push_of_some _ e) a o e)
  have hn₄ := nsk hn₃ k₄
  -- self.index = index
  show wpAt _ _ _ (execs (_ :: _) _) _ _ _
  refine ks_wpAt_execs_cons (ks_wpAt_Assign_Attr (wpAt_of_wpAny (ldX hn₄ rfl (ldX hn₄ rfl ?_ rfl rfl) rfl rfl)))
  refine set_plain X₄ (ox := excO C t1) (od := none) ⟨hx₄, rfl, rfl, trivial⟩ T.sa ?_
  refine exc_osa X₄ hx₄ hcl (show refsVE (.ref C :: bm) = true from hbm) rfl T.noI (fun h₅ tk₅ dx k₅ dn dne hx₅ hn₅ => ?_)
  have X₅ : K.In h₅ := fun a o e => k₅ a o (hKx a o e) (X₄ a o e)
  have hn₆ := nsk hn₄ k₅
  -- self.reason = reason
  show wpAt _ _ _ (execs (_ :: _) _) _ _ _
  refine ks_wpAt_execs_cons (ks_wpAt_Assign_Attr (wpAt_of_wpAny (ldX hn₆ rfl (ldX hn₆ rfl ?_ rfl rfl) rfl rfl)))
  obtain ⟨oD, esD, epD, hoD, rD⟩ := hn₅
  refine set_plain X₅ (ox := { cls := .ref C, dict := some dx, data := .fields #[.ref t1, .none, .none, .none, .bool false, .none] }) (od := some oD) ⟨hx₅, rfl, rfl, hoD⟩ T.sa ?_
  refine PySem.OEX.osa_old X₅ hx₅ ⟨oD, esD, epD, hoD, rD⟩ (nl := ["index"]) ?_ (by simp) hcl (show refsVE (.ref C :: bm) = true from hbm) rfl T.noR (fun h₇ tk₇ k₇ hn₇ => ?_)
  · intro y hy
    by_cases e : y = "index"
    · rw [e]; exact List.mem_cons_self
    · exact absurd (show (if y = ("index" : Str) then some v1 else none) = none from if_neg e) hy
  show wpAt _ _ _ (execs [] _) _ _ _
  refine wpAt_of_wpAny (wpAny_execs_nil (hq h₇ _ dx t1 ⟨fun b o hbx e => ?_, k₇ _ _ (Ne.symm dne) hx₅⟩))
  have e1 := k₃ b o (k b o e)
  have e4 := k₄ b o hbx e1
  exact k₇ b o (Nat.ne_of_lt (Nat.lt_of_lt_of_le (Heap.lt_size e4) dn)) (k₅ b o hbx e4)
/-- a made BadCode -/
structure OwnMade (h h' : Heap) (e C d : Addr) : Prop where
  keep : ∀ b o, h.get? b = some o → h'.get? b = some o
  new : h.objs.size ≤ e
  obj : ∃ oe vs, h'.get? e = some oe ∧ oe.cls = .ref C ∧ oe.dict = some d ∧ oe.data = .fields vs ∧ vs[1]? = some .none
theorem bad_made (T : BadTxt prog K mg C fI) (MM : L2.Mod K mg base) {v1 v2 : Value} (hb : ∀ b o, base.get? b = some o → s.heap.get? b = some o) (hroom : A.depth + 1 < recursionLimit)
    (hq : ∀ h' tk e d, OwnMade s.heap h' e C d → R (.ok (.ret (.ref e))) { s with heap := h', toks := tk }) :
    codeAny (model prog w) A (.call (.ref C) ⟨[v1, v2], []⟩) R s := by
  obtain ⟨nm, q, N, bs, bm, sn, sub, ab, col, dd, k0, k1, k2, k3, k5, hC, hbm, hal⟩ := T.cls
  obtain ⟨hp, g, dr, tk, os⟩ := s
  have X : K.In hp := MM.kin.keeps hb
  have k : ∀ b o, hp.get? b = some o → ((hp.push (kdv_tup [v1, v2])).push (excO C hp.objs.size)).get? b = some o := fun b o e => Heap.get?_push_of_some _ (Heap.get?_push_of_some _ e)
  have hget : ((hp.push (kdv_tup [v1, v2])).push (excO C hp.objs.size)).get? (hp.objs.size + 1) = some (excO C hp.objs.size) := by heap_get
  have hnx : base.get? (hp.objs.size + 1) = none := by
    cases e : base.get? (hp.objs.size + 1) with
    | none => rfl
    | some o =>
      have z : hp.get? (hp.objs.size + 1) = some o := hb _ _ e
      exact absurd (Nat.lt_of_succ_lt (Heap.lt_size z)) (Nat.lt_irrefl _)
  refine call_own F.excBase_ValueError (fun X => refsVE_contains X bm hbm) (X _ _ hC) (looks_findIn X T.iC) (fun self => bind_fn X self T.tC) (le_size (by simp)) ?_
  refine bad_init (s := ⟨(hp.push (kdv_tup [v1, v2])).push (excO C hp.objs.size), g, dr, tk, os⟩) T MM (fun b o e => k b o (hb b o e)) hget hnx ?_ fun h' tk' dx t1 ⟨k', hx⟩ => ?_
  · show A.depth + 1 < recursionLimit
    exact hroom
  · have old : ∀ b o, hp.get? b = some o → h'.get? b = some o := fun b o e => k' b o (Nat.ne_of_lt (Nat.lt_succ_of_lt (Heap.lt_size e))) (k b o e)
    exact ⟨rfl, hq h' tk' (hp.objs.size + 1) dx ⟨old, Nat.le_succ _, ⟨_, _, hx, rfl, rfl, rfl, rfl⟩⟩⟩
end
end BadX
end PySem
namespace Snk
open PySem PySem.Spec PyProof.Rows L2
section
variable {X : Cx} {C fI : Addr}
theorem len2 {α : Type} : ∀ {l : List α}, l.length = 2 → ∃ a b, l = [a, b]
  | [a, b], _ => ⟨a, b, rfl⟩
/-- BadCode(e, e'): nothing of it is told but its class -/
def tMkBad (C : Addr) (ta : TA) : L2.St → Hp → XK → Prop := fun σ H Q => ta σ H fun vs H1 => vs.length = 2 ∧ ∀ d, Q (.ref C) d H1
theorem pmk_bad {a b : Expr} {ta : TA} {p pos : Pos} {k : Nat} (T : PySem.BadX.BadTxt X.prog X.K X.mg C fI) (hr : Room (k + 1) X.A) (ha : PA X [a, b] ta) (hg : Gl X "BadCode" := by rfl)
    (he : starEach (a :: [b]) X.env = (false, eval a X.env) :: starEach [b] X.env := by rfl) (hpl : (backTo pos (starEach [b] X.env)).any (·.1) = false := by rfl) :
    PMk X (.Call (.Name "BadCode" p) [a, b] [] pos) (tMkBad C ta) := by
  intro pins s σ H Q I h
  refine wpAny_Call_Name_kw (ld_glob I hg T.gC ?_)
  refine PySem.W.callWith_K (h₀ := X.base) I.ok.mod.kin T.kC (thn (ha.run pos pins s σ H _ I h) fun us s1 hh => ?_) he hpl
  obtain ⟨vs, H1, I1, r1, ev, q1⟩ := hh
  refine ⟨I1.kIn, ?_⟩
  have hl : us.length = 2 := by rw [← r1.length, ev]
  obtain ⟨v1, v2, rfl⟩ := len2 hl
  · show wpAny _ _ (call (.ref C) [v1, v2]) _ _ _
    have ib := I1.bk
    have MM := I1.mod
    obtain ⟨hp, g, dr, tk, os⟩ := s1
    refine wpAny_call (PySem.BadX.bad_made T MM ib (by have := hr.dp; omega) fun h' tk' e d M => ?_)
    show MkP X pins σ Q (.ref e) ⟨h', g, dr, tk', os⟩
    obtain ⟨oe, fv, hoe, hc, hd, hdat, h1⟩ := M.obj
    obtain ⟨G', g1, g2⟩ := restrict h' fun b => decide (b ≠ e)
    have gk : ∀ b, b ≠ e → G'.get? b = h'.get? b := fun b hb => g1 b (decide_eq_true hb)
    have ge : G'.get? e = none := g2 e (by simp)
    have old : ∀ b o, hp.get? b = some o → G'.get? b = some o := fun b o q => (gk b (Nat.ne_of_lt (Nat.lt_of_lt_of_le (Heap.lt_size q) M.new))).trans (M.keep b o q)
    have J : Inv X pins σ H1 ⟨G', g, dr, tk', os⟩ := I1.kept old
    refine ⟨e, oe, fv, ⟨G', g, dr, tk', os⟩, _, .ref C, some d, rfl, J, fun b o q => ?_, ge, hoe, ⟨hc, hd⟩, hdat, h1, I1.hok.fresh M.new, rfl, I1.bare, raises_own T.exC T.tyC, q1 (some d)⟩
    by_cases hb : b = e
    · have q' : G'.get? b = some o := q
      rw [hb, ge] at q'; cases q'
    · exact (gk b hb).symm.trans q
end
end Snk
set_option Elab.async false
set_option linter.all false
set_option maxRecDepth 100000
set_option maxHeartbeats 4000000
namespace Snk
open PySem PySem.Spec PyProof.Rows L2
local macro_rules | `(tactic| walk_at "K") => `(tactic| try simp only [ws_K, ws_P, ws_w, cx_K, cx_P, cx_w])
local macro_rules | `(tactic| walk_at "isi") => `(tactic| first
  | with_reducible refine r_isB (.base (.int _)) kk_int_int ?_ | with_reducible refine r_isB (.base (.int _)) kk_int_bool ?_ | with_reducible refine r_isB (.base (.int _)) kk_int_str ?_ | with_reducible refine r_isB (.base (.int _)) kk_int_tuple ?_ | with_reducible refine r_isB (.base (.bl _)) kk_bool_int ?_ | with_reducible refine r_isB (.base (.bl _)) kk_bool_bool ?_ | with_reducible refine r_isB (.base (.bl _)) kk_bool_str ?_ | with_reducible refine r_isB (.base (.bl _)) kk_bool_tuple ?_ | with_reducible refine r_isB (.base (.str _)) kk_str_int ?_ | with_reducible refine r_isB (.base (.str _)) kk_str_bool ?_ | with_reducible refine r_isB (.base (.str _)) kk_str_str ?_ | with_reducible refine r_isB (.base (.str _)) kk_str_tuple ?_ | with_reducible refine r_isB (.base .non) kk_NoneType_int ?_ | with_reducible refine r_isB (.base .non) kk_NoneType_bool ?_ | with_reducible refine r_isB (.base .non) kk_NoneType_str ?_ | with_reducible refine r_isB (.base .non) kk_NoneType_tuple ?_ | with_reducible refine r_isB (.base (.tup (by assumption))) kk_tuple_int ?_ | with_reducible refine r_isB (.base (.tup (by assumption))) kk_tuple_bool ?_ | with_reducible refine r_isB (.base (.tup (by assumption))) kk_tuple_str ?_ | with_reducible refine r_isB (.base (.tup (by assumption))) kk_tuple_tuple ?_)
local macro_rules | `(tactic| tb_rel) => `(tactic| first | assumption | exact upd_same | ((refine look_old ?hl ?hn); (case hn => assumption); (case hl => tb_rel)) | ((refine Gr.tup (by assumption) _ _ ?hl); (case hl => tb_rel)))
local macro_rules | `(tactic| tb_start) => `(tactic| first
  | ((with_reducible refine' r_var ?hvar ?_); (case hvar => exact rfl))
  | with_reducible refine r_c ?_ | with_reducible refine r_op ?_ | with_reducible refine r_un ?_ | with_reducible refine r_chain ?_ | with_reducible refine r_tup ?_ | with_reducible refine r_lst ?_ | with_reducible refine r_cons ?_ | with_reducible refine r_nil ?_ | with_reducible refine r_cb ?_ | with_reducible refine r_call ?_ | with_reducible refine r_bm ?_ | with_reducible refine r_bm0 ?_ | with_reducible refine r_sl ?_ | with_reducible refine r_test ?_ | with_reducible refine r_tb ?_ | with_reducible refine r_tand ?_ | with_reducible refine r_tor ?_ | with_reducible refine r_tnot ?_ | with_reducible refine r_andV ?_ | with_reducible refine r_orV ?_ | with_reducible refine r_notV ?_ | with_reducible refine r_ife ?_ | with_reducible refine s_seq ?_ | with_reducible refine s_nextM ?_ | with_reducible refine s_next ?_ | with_reducible refine s_ret ?_ | with_reducible refine s_if ?_ | with_reducible refine s_asg ?_ | with_reducible refine s_drop ?_ | with_reducible refine s_cont ?_ | with_reducible refine s_break ?_ | with_reducible refine g_name ?_ | with_reducible refine r_I0 ?_ | with_reducible refine r_U ?_ | with_reducible refine k_bl2 ?_ | with_reducible refine r_part ?_ | with_reducible refine r_nopart ?_ | with_reducible refine if_tt ?_ | with_reducible refine if_ff ?_ | with_reducible refine if_nf ?_ | with_reducible refine if_nt ?_
  | ((with_reducible refine' r_eq ?hsc ?_); (case hsc => exact rfl)) | ((with_reducible refine' r_ne ?hsc ?_); (case hsc => exact rfl)) | ((with_reducible refine isi_g ?_); walk_at "isi") | (first | ((with_reducible refine' r_ixT ?hix ?eix ?_); (case hix => tb_rel); (case eix => first | exact at0 | exact at1 | exact at2 | rfl))) | ((with_reducible refine' if_t ?hc ?_); (case hc => decide +kernel)) | ((with_reducible refine' if_f ?hc ?_); (case hc => decide +kernel)))
local macro_rules | `(tactic| walk_at "go") => `(tactic| repeat tb_start)
local macro_rules | `(tactic| walk_at "gr") => `(tactic| first | exact Gr.refl _ _ | assumption | ((refine Gr.trans ?ga (Gr.new ?gn)); (case gn => assumption); (case ga => walk_at "gr")) | ((refine' Gr.trans ?ga ?gb); (case gb => assumption); (case ga => walk_at "gr")))
local macro_rules | `(tactic| walk_at "go2") => `(tactic| repeat (first | tb_start | (((with_reducible refine' And.intro ?hz ?_); (case hz => (refine sz10 ?_; first | decide | (simp; done) | (simp; omega))); intro p hp)) | (first | ((with_reducible refine' r_inT ?hs ?hf ?ha ?_); (case hs => first | assumption | exact SqT.of (by tb_rel)); (case hf => rfl); (case ha => first | rfl | decide +kernel | exact flat_strs)) | ((with_reducible refine' r_niT ?hs ?hf ?ha ?_); (case hs => first | assumption | exact SqT.of (by tb_rel)); (case hf => rfl); (case ha => first | rfl | decide +kernel | exact flat_strs)))))
section
variable {P : Program} {w : World} {K : PySem.W.Frag} {mg : Str → Option Value} {base : Heap} {k : Nat} {x : Str} {i : Nat} {N ps : List Str} {sp : Sp}
/-- a def that may raise -/
theorem mkX (D : DefAt K mg x i ps) (S : FnScope N ps (defScope (topS i))) (len : ∀ vs H Q E, sp vs H Q E → vs.length = ps.length)
    (hb : ∀ (X : Cx) (Q : VK) (vs : List V) (H : Hp) (E : XK), (∃ f cdv A outer s H0, X = (cxOf (L2.CX P w) P w K mg base N x (defScope (topS i)) f cdv A outer s H0 E)) → Room k X.A → Takes X (fun cls d _ H => E cls d H) → sp vs H Q E →
      ∃ t, PSs X (defBody (topS i)) t ∧ t { nx := fun _ H' => Q .non H', rt := Q } (start N vs) H) : Cal P w K mg base (L2.CX P w) (k + 1) x ps sp := by
  obtain ⟨f, fd, F, m, b⟩ := D.ex
  refine ⟨f, fd, m, F.kp, b, FunD.ok F S len fun cdv A outer s H vs Q E hr h => ?_⟩
  exact hb _ Q vs H E ⟨f, cdv, A, outer, s, H, rfl⟩ hr (takes_of rfl rfl rfl rfl) h
end
/-- an error of the class at C may be let out -/
def EOk (C : Addr) (H : Hp) (E : XK) : Prop := ∀ d H', Gr no H H' → E (.ref C) d H'
theorem EOk.gr {C : Addr} {H H' : Hp} {E : XK} (e : EOk C H E) (g : Gr no H H') : EOk C H' E := fun d H2 g2 => e d H2 (g.trans g2)
theorem r_bad {C : Addr} {ta : TA} {σ : L2.St} {H : Hp} {E : XK} (h : ta σ H fun vs H1 => vs.length = 2 ∧ ∀ d, E (.ref C) d H1) : tMkBad C ta σ H (fun cls d H' => E cls d H') := h
def Ins.hd : Ins → Str
  | .push _ => "push" | .word _ => "word" | .load _ => "load" | .store _ => "store" | .pair o => o.nm | .not => "not" | .pick => "pick" | .div _ => "div" | .mod _ => "mod" | .cut _ => "cut" | .jump _ => "jump" | .unless _ => "unless"
def Ins.ops : Ins → List V
  | .push v => [v] | .word s => [.str s] | .load i => [.int i] | .store i => [.int i] | .pair _ => [] | .not => [] | .pick => [] | .div n => [.int n] | .mod n => [.int n] | .cut n => [.int n] | .jump k => [.int k] | .unless k => [.int k]
theorem row_hd : ∀ i : Ins, i.row = .str i.hd :: i.ops
  | .push _ => rfl | .word _ => rfl | .load _ => rfl | .store _ => rfl | .pair _ => rfl | .not => rfl | .pick => rfl | .div _ => rfl | .mod _ => rfl | .cut _ => rfl | .jump _ => rfl | .unless _ => rfl
theorem jump_in : ∀ {i : Ins}, inV (.str i.hd) [.str "jump", .str "unless"] = true → ∃ k, (i = .jump k ∨ i = .unless k)
  | .jump k, _ => ⟨k, .inl rfl⟩
  | .unless k, _ => ⟨k, .inr rfl⟩
  | .push _, h => absurd (show inV (.str "push") [.str "jump", .str "unless"] = true from h) (by decide +kernel)
  | .word _, h => absurd (show inV (.str "word") [.str "jump", .str "unless"] = true from h) (by decide +kernel)
  | .load _, h => absurd (show inV (.str "load") [.str "jump", .str "unless"] = true from h) (by decide +kernel)
  | .store _, h => absurd (show inV (.str "store") [.str "jump", .str "unless"] = true from h) (by decide +kernel)
  | .not, h => absurd (show inV (.str "not") [.str "jump", .str "unless"] = true from h) (by decide +kernel)
  | .pick, h => absurd (show inV (.str "pick") [.str "jump", .str "unless"] = true from h) (by decide +kernel)
  | .div _, h => absurd (show inV (.str "div") [.str "jump", .str "unless"] = true from h) (by decide +kernel)
  | .mod _, h => absurd (show inV (.str "mod") [.str "jump", .str "unless"] = true from h) (by decide +kernel)
  | .cut _, h => absurd (show inV (.str "cut") [.str "jump", .str "unless"] = true from h) (by decide +kernel)
  | .pair .add, h => absurd (show inV (.str "add") [.str "jump", .str "unless"] = true from h) (by decide +kernel)
  | .pair .sub, h => absurd (show inV (.str "sub") [.str "jump", .str "unless"] = true from h) (by decide +kernel)
  | .pair .mul, h => absurd (show inV (.str "mul") [.str "jump", .str "unless"] = true from h) (by decide +kernel)
  | .pair .mn, h => absurd (show inV (.str "min") [.str "jump", .str "unless"] = true from h) (by decide +kernel)
  | .pair .mx, h => absurd (show inV (.str "max") [.str "jump", .str "unless"] = true from h) (by decide +kernel)
  | .pair .less, h => absurd (show inV (.str "less") [.str "jump", .str "unless"] = true from h) (by decide +kernel)
  | .pair .same, h => absurd (show inV (.str "same") [.str "jump", .str "unless"] = true from h) (by decide +kernel)
  | .pair .and_, h => absurd (show inV (.str "and") [.str "jump", .str "unless"] = true from h) (by decide +kernel)
  | .pair .or_, h => absurd (show inV (.str "or") [.str "jump", .str "unless"] = true from h) (by decide +kernel)
  | .pair .join, h => absurd (show inV (.str "join") [.str "jump", .str "unless"] = true from h) (by decide +kernel)
theorem jump_out : ∀ {i : Ins}, inV (.str i.hd) [.str "jump", .str "unless"] = false → skipOf i = none
  | .jump k, h => absurd (show inV (.str "jump") [.str "jump", .str "unless"] = false from h) (by decide +kernel)
  | .unless k, h => absurd (show inV (.str "unless") [.str "jump", .str "unless"] = false from h) (by decide +kernel)
  | .push _, _ => rfl | .word _, _ => rfl | .load _, _ => rfl | .store _, _ => rfl | .pair _, _ => rfl | .not, _ => rfl | .pick, _ => rfl | .div _, _ => rfl | .mod _, _ => rfl | .cut _, _ => rfl
theorem insV_gr {x : Addr → Prop} {H H' : Hp} (g : Gr x H H') : ∀ {xs : List V} {cs : List Ins}, Paired (InsV H) xs cs → Paired (InsV H') xs cs
  | _, _, .nil => .nil
  | _, _, .cons h t => .cons (h.gr g) (insV_gr g t)
theorem i_rng {ta : TA} {σ : L2.St} {H : Hp} {R : It → Hp → Prop} (h : ta σ H fun vs H1 => ∃ j : Int, vs = [.int j] ∧ -(2 ^ 62) ≤ j ∧ j < 2 ^ 62 ∧ R (Itr 0 j.toNat) H1) : iRng1 ta σ H R := h
section
variable {P : Program} {w : World} {K : PySem.W.Frag} {mg : Str → Option Value} {base : Heap} {C fI : Addr}
/-! ### check_form -/
abbrev nm_check_form : List Str := ["code", "at", "instruction"]
theorem sc_check_form : FnScope nm_check_form ["code"] (defScope (topS 32)) := ⟨rfl, rfl, rfl, by decide +kernel, rfl, by decide +kernel, by decide +kernel⟩
-- slots: 0:code 1:at 2:instruction
structure FormOk (H : Hp) (xs : List V) (cs : List Ins) : Prop where
  rows : Paired (InsV H) xs cs
  ok : ∀ x ∈ cs, InsOk x
  skip : ∀ (i : Nat) (x : Ins) (k : Int), cs[i]? = some x → skipOf x = some k → (i : Int) + 1 + k ≤ cs.length
  len : cs.length ≤ 400
def spForm (C : Addr) : Sp := fun vs H Q E => ∃ (a : Addr) (xs : List V), vs = [.ref a] ∧ H a = some (.tup xs) ∧ xs.length ≤ 100000 ∧ (∀ x ∈ xs, ItemV H x) ∧ EOk C H E ∧ ∀ H' cs, Gr no H H' → FormOk H' xs cs → Q .non H'
abbrev cInstr (P : Program) (w : World) (K : PySem.W.Frag) (mg : Str → Option Value) (base : Heap) : Prop := Cal P w K mg base CX0 3 "is_instruction" ["value"] (fun vs H Q _ => ∃ v, vs = [v] ∧ ItemV H v ∧ ∀ k H', Gr no H H' → (k = true → ∃ i, InsV H' v i ∧ InsOk i) → Q (.bl k) H')
set_option maxHeartbeats 16000000 in
theorem c_check_form (D : DefAt K mg "check_form" 32 ["code"]) (B : Blt mg) (G : Glo K mg) (T : PySem.BadX.BadTxt P K mg C fI) (c_is_instruction : cInstr P w K mg base) : Cal P w K mg base (L2.CX P w) 4 "check_form" ["code"] (spForm C) := by
  obtain ⟨t1, gMOST_CODE⟩ := G.mcode
  refine mkX D sc_check_form (fun vs H Q E h => by obtain ⟨_, _, rfl, _⟩ := h; rfl) ?_
  rintro X Q vs H E ⟨f, cdv, A, outer, s, H0, rfl⟩ hr tk ⟨a, xs, rfl, ha, hl, hi, he, q⟩
  refine ⟨_, (pss_cons (ps_if (PW.pt (pw_or (pt_not (pt_val (pe_callB call_isi rfl B.isinstance_ (by decide +kernel) (pa_cons (pv 0) (pa_cons (pe_bltn (v := .ty "tuple") rfl B.tuple_ (by decide +kernel) rfl) pa_nil))))) (pw_or1 (pt_cmpR op_gt (pe_callB call_len_seq rfl B.len_ PySem.boot_len (pa_cons (pv 0) pa_nil)) (pe_glob (v := .int 400) rfl gMOST_CODE ⟨_, rfl⟩) (nomark _))))) (pss_one (ps_raise rfl tk (pmk_bad T hr (pa_cons pe_int (pa_cons pe_str pa_nil))))) pss_nil)
      (pss_one (ps_for (passes_of rfl) rfl (pi_range1 rfl B.range_ (pa_cons (pe_callB call_len_seq rfl B.len_ PySem.boot_len (pa_cons (pv 0) pa_nil)) pa_nil)) (pg_name (i := 1) sc_check_form.nd rfl (Or.inl rfl)) (pss_cons (ps_set (i := 2) sc_check_form.nd rfl (Or.inl rfl) (pe_ix ix_tup (pv 0) (pv 1) (fun _ _ => rfl)))
      (pss_cons (ps_if (pt_not (pt_val (pc0 c_is_instruction hr (by decide) (pa_cons (pv 2) pa_nil)))) (pss_one (ps_raise rfl tk (pmk_bad T hr (pa_cons (pv 1) (pa_cons pe_str pa_nil))))) pss_nil)
      (pss_one (ps_if (PW.pt (pw_and (pt_cmpR op_in_seq (pe_ix ix_tup (pv 2) pe_int (fun _ _ => rfl)) (pe_tup (pa_cons pe_str (pa_cons pe_str pa_nil))) (by rfl)) (pw_and1 (pt_cmpR op_gt (pe_op op_add (pe_op op_add (pv 1) pe_int) (pe_ix ix_tup (pv 2) pe_int (fun _ _ => rfl))) (pe_callB call_len_seq rfl B.len_ PySem.boot_len (pa_cons (pv 0) pa_nil)) (nomark _))))) (pss_one (ps_raise rfl tk (pmk_bad T hr (pa_cons (pv 1) (pa_cons pe_str pa_nil))))) pss_nil))))))), ?_⟩
  walk_at "K"
  have hs : SqT K H a xs := SqT.of ha
  walk_at "go2"
  refine ⟨a, _, rfl, .inr hs, ?_⟩
  walk_at "go2"
  refine if_dec (fun c1 => ?_) (fun c1 => ?_)
  · (walk_at "go2"; refine r_bad ?_; walk_at "go2"; exact ⟨rfl, fun d => he d _ (by walk_at "gr")⟩)
  · walk_at "go2"
    refine s_for (i_rng ?_)
    walk_at "go2"
    refine ⟨a, _, rfl, .inr hs, ?_⟩
    refine ⟨_, rfl, by omega, by omega, ?_⟩
    rw [Int.toNat_natCast]
    have hlen : xs.length ≤ 400 := by omega
    refine for_range (fun i σ H' => Gr no H H' ∧ (∃ u1 u2, σ = [some (.ref a), u1, u2]) ∧ ∃ cs, Paired (InsV H') (xs.take i) cs ∧ (∀ x ∈ cs, InsOk x) ∧ ∀ (i : Nat) (x : Ins) (k : Int), cs[i]? = some x → skipOf x = some k → (i : Int) + 1 + k ≤ xs.length) ⟨Gr.refl _ _, ⟨_, _, rfl⟩, [], .nil, ⟨(fun x hx => nomatch hx), (fun i x k h => nomatch h)⟩⟩ ?_ ?_
    · rintro i σ H' hlt ⟨g, ⟨u1, u2, rfl⟩, cs, hp, hok, hsk⟩
      have hx : xs[i]? = some xs[i] := List.getElem?_eq_getElem hlt
      have ha' := g.tup _ _ ha
      have hsz : cs.length = i := by rw [← hp.length, List.length_take]; omega
      walk_at "go2"
      refine r_ixT ha' (show atI xs (0 + (i : Int)) = some xs[i] by rw [Int.zero_add]; exact atI_nat hx) ?_
      walk_at "go2"
      refine ⟨_, rfl, (hi _ (List.mem_of_getElem? hx)).gr g, fun k H2 g2 kk => ?_⟩
      walk_at "go2"
      have g3 : Gr no H H2 := g.trans g2
      refine if_nb (fun c2 => ?_) (fun c2 => ?_)
      · (walk_at "go2"; refine r_bad ?_; walk_at "go2"; exact ⟨rfl, fun d => he d _ (by walk_at "gr")⟩)
      · obtain ⟨x, ⟨b, eb, hb⟩, ox⟩ := kk c2
        rw [row_hd] at hb
        rw [eb]
        have hxs : xs.take (i + 1) = xs.take i ++ [xs[i]] := by rw [List.take_add_one, hx]; rfl
        have fin : ∀ H3, Gr no H2 H3 → (∀ k, skipOf x = some k → (i : Int) + 1 + k ≤ xs.length) → ∃ cs, Paired (InsV H3) (xs.take (i + 1)) cs ∧ (∀ x ∈ cs, InsOk x) ∧ ∀ (i : Nat) (x : Ins) (k : Int), cs[i]? = some x → skipOf x = some k → (i : Int) + 1 + k ≤ xs.length := fun H3 g4 hk => by
          refine ⟨cs ++ [x], ?_, fun y hy => ?_, fun j y k hj hk' => ?_⟩
          · rw [hxs]
            refine Paired.app (insV_gr (g2.trans g4) hp) (.cons ⟨b, eb, ?_⟩ .nil)
            rw [row_hd]; exact g4.tup _ _ hb
          · rcases List.mem_append.mp hy with hy | hy
            · exact hok y hy
            · rw [List.mem_singleton] at hy; rw [hy]; exact ox
          · rcases Nat.lt_or_ge j cs.length with hj' | hj'
            · rw [List.getElem?_append_left hj'] at hj
              exact hsk j y k hj hk'
            · rw [List.getElem?_append_right hj'] at hj
              have hj0 : j - cs.length = 0 := by
                rcases Nat.eq_zero_or_pos (j - cs.length) with z | z
                · exact z
                · rw [List.getElem?_eq_none (by simp; omega)] at hj; cases hj
              rw [hj0] at hj
              have e := Option.some.inj hj
              rw [← e] at hk'
              have : j = i := by omega
              rw [this]
              exact hk k hk'
        walk_at "go2"
        refine if_b (fun c3 => ?_) (fun c3 => ?_)
        · obtain ⟨k, hk⟩ := jump_in c3
          have hb2 : H2 b = some (.tup [.str x.hd, .int k]) := by rcases hk with rfl | rfl <;> exact hb
          have hks : skipOf x = some k := by rcases hk with rfl | rfl <;> rfl
          walk_at "go2"
          have ha2 := g2.tup _ _ ha'
          refine ⟨a, xs, rfl, .inr (SqT.of (by tb_rel)), ?_⟩
          walk_at "go2"
          refine if_dec (fun c4 => ?_) (fun c4 => ?_)
          · (walk_at "go2"; refine r_bad ?_; walk_at "go2"; exact ⟨rfl, fun d => he d _ (by walk_at "gr")⟩)
          · walk_at "go2"
            refine ⟨g3.trans (by walk_at "gr"), ⟨_, _, rfl⟩, fin _ (by walk_at "gr") (fun k' hk' => ?_)⟩
            rw [hks] at hk'; cases hk'; omega
        · walk_at "go2"
          refine ⟨g3.trans (by walk_at "gr"), ⟨_, _, rfl⟩, fin _ (by walk_at "gr") (fun k hk => ?_)⟩
          rw [jump_out c3] at hk; cases hk
    · rintro σ H' ⟨g, _, cs, hp, hok, hsk⟩
      rw [List.take_length] at hp
      have hl2 := hp.length
      exact q _ cs g ⟨hp, hok, fun i x k h1 h2 => by have h5 := hsk i x k h1 h2; omega, by omega⟩
end
end Snk
set_option Elab.async false
set_option linter.all false
set_option maxRecDepth 100000
set_option maxHeartbeats 4000000
namespace Snk
open PySem PySem.Spec PyProof.Rows L2
local macro_rules | `(tactic| walk_at "K") => `(tactic| try simp only [ws_K, ws_P, ws_w, cx_K, cx_P, cx_w])
local macro_rules | `(tactic| walk_at "isi") => `(tactic| first
  | with_reducible refine r_isB (.base (.int _)) kk_int_int ?_ | with_reducible refine r_isB (.base (.int _)) kk_int_bool ?_ | with_reducible refine r_isB (.base (.int _)) kk_int_str ?_ | with_reducible refine r_isB (.base (.int _)) kk_int_tuple ?_ | with_reducible refine r_isB (.base (.bl _)) kk_bool_int ?_ | with_reducible refine r_isB (.base (.bl _)) kk_bool_bool ?_ | with_reducible refine r_isB (.base (.bl _)) kk_bool_str ?_ | with_reducible refine r_isB (.base (.bl _)) kk_bool_tuple ?_ | with_reducible refine r_isB (.base (.str _)) kk_str_int ?_ | with_reducible refine r_isB (.base (.str _)) kk_str_bool ?_ | with_reducible refine r_isB (.base (.str _)) kk_str_str ?_ | with_reducible refine r_isB (.base (.str _)) kk_str_tuple ?_ | with_reducible refine r_isB (.base .non) kk_NoneType_int ?_ | with_reducible refine r_isB (.base .non) kk_NoneType_bool ?_ | with_reducible refine r_isB (.base .non) kk_NoneType_str ?_ | with_reducible refine r_isB (.base .non) kk_NoneType_tuple ?_ | with_reducible refine r_isB (.base (.tup (by assumption))) kk_tuple_int ?_ | with_reducible refine r_isB (.base (.tup (by assumption))) kk_tuple_bool ?_ | with_reducible refine r_isB (.base (.tup (by assumption))) kk_tuple_str ?_ | with_reducible refine r_isB (.base (.tup (by assumption))) kk_tuple_tuple ?_)
local macro_rules | `(tactic| tb_rel) => `(tactic| first | assumption | exact upd_same | ((refine look_old ?hl ?hn); (case hn => assumption); (case hl => tb_rel)) | ((refine Gr.tup (by assumption) _ _ ?hl); (case hl => tb_rel)))
local macro_rules | `(tactic| tb_start) => `(tactic| first
  | ((with_reducible refine' r_var ?hvar ?_); (case hvar => exact rfl))
  | with_reducible refine r_c ?_ | with_reducible refine r_op ?_ | with_reducible refine r_un ?_ | with_reducible refine r_chain ?_ | with_reducible refine r_tup ?_ | with_reducible refine r_lst ?_ | with_reducible refine r_cons ?_ | with_reducible refine r_nil ?_ | with_reducible refine r_cb ?_ | with_reducible refine r_call ?_ | with_reducible refine r_bm ?_ | with_reducible refine r_bm0 ?_ | with_reducible refine r_sl ?_ | with_reducible refine r_test ?_ | with_reducible refine r_tb ?_ | with_reducible refine r_tand ?_ | with_reducible refine r_tor ?_ | with_reducible refine r_tnot ?_ | with_reducible refine r_andV ?_ | with_reducible refine r_orV ?_ | with_reducible refine r_notV ?_ | with_reducible refine r_ife ?_ | with_reducible refine s_seq ?_ | with_reducible refine s_nextM ?_ | with_reducible refine s_next ?_ | with_reducible refine s_ret ?_ | with_reducible refine s_if ?_ | with_reducible refine s_asg ?_ | with_reducible refine s_drop ?_ | with_reducible refine s_cont ?_ | with_reducible refine s_break ?_ | with_reducible refine g_name ?_ | with_reducible refine r_I0 ?_ | with_reducible refine r_U ?_ | with_reducible refine k_bl2 ?_ | with_reducible refine r_part ?_ | with_reducible refine r_nopart ?_ | with_reducible refine if_tt ?_ | with_reducible refine if_ff ?_ | with_reducible refine if_nf ?_ | with_reducible refine if_nt ?_
  | ((with_reducible refine' r_eq ?hsc ?_); (case hsc => exact rfl)) | ((with_reducible refine' r_ne ?hsc ?_); (case hsc => exact rfl)) | ((with_reducible refine isi_g ?_); walk_at "isi") | (first | ((with_reducible refine' r_ixT ?hix ?eix ?_); (case hix => tb_rel); (case eix => first | exact at0 | exact at1 | exact at2 | rfl))) | ((with_reducible refine' if_t ?hc ?_); (case hc => decide +kernel)) | ((with_reducible refine' if_f ?hc ?_); (case hc => decide +kernel)))
local macro_rules | `(tactic| walk_at "go") => `(tactic| repeat tb_start)
local macro_rules | `(tactic| walk_at "gr") => `(tactic| first | exact Gr.refl _ _ | assumption | ((refine Gr.trans ?ga (Gr.new ?gn)); (case gn => assumption); (case ga => walk_at "gr")) | ((refine' Gr.trans ?ga ?gb); (case gb => assumption); (case ga => walk_at "gr")))
local macro_rules | `(tactic| walk_at "go2") => `(tactic| repeat (first | tb_start | (((with_reducible refine' And.intro ?hz ?_); (case hz => (refine sz10 ?_; first | decide | (simp; done) | (simp; omega))); intro p hp)) | (first | ((with_reducible refine' r_inT ?hs ?hf ?ha ?_); (case hs => first | assumption | exact SqT.of (by tb_rel)); (case hf => rfl); (case ha => first | rfl | decide +kernel | exact flat_strs)) | ((with_reducible refine' r_niT ?hs ?hf ?ha ?_); (case hs => first | assumption | exact SqT.of (by tb_rel)); (case hf => rfl); (case ha => first | rfl | decide +kernel | exact flat_strs)))))
local macro_rules | `(tactic| tb_start) => `(tactic| with_reducible refine k_int ?_)
section
variable {P : Program} {w : World} {K : PySem.W.Frag} {mg : Str → Option Value} {base : Heap} {C fI : Addr}
abbrev LcB (J : It) (g : TG) (tt : TT) (te : TE) (vs : List Nat) (σ : L2.St) (D : Addr) (H1 : Hp) (Qd : Hp → Prop) : Prop :=
  ∃ W : Nat → Nat → Hp → Prop, (∃ m, W 0 m (upd H1 D (.lst []))) ∧ ∀ i m H, W i m H →
  (J.stop i H ∧ Qd H) ∨ (J.go i H ∧ ∃ Nx : Hp → Prop, (∀ H', Nx H' → ∃ m', m' < m ∧ W (i + 1) m' H') ∧ ∀ x H', J.yld i H x H' → g x (wipe σ vs) H' fun σ2 H2 => wipe σ2 vs = wipe σ vs ∧ tt σ2 H2 fun b H3 =>
    if b = true then te σ2 H3 fun y H4 => ∃ acc, H4 D = some (.lst acc) ∧ acc.length < sizeLine ∧ Nx (upd H4 D (.lst (acc ++ [y]))) else Nx H3)
theorem r_lc {wi : TI} {g : TG} {tt : TT} {te : TE} {vs : List Nat} {σ : L2.St} {H : Hp} {Q : VK} (h : wi σ H fun J H1 => ∀ D, H1 D = none → LcB J g tt te vs σ D H1 (fun H => Q (.ref D) H)) : tLc wi g tt te vs σ H Q := h
theorem r_yes {σ : L2.St} {H : Hp} {Q : Bool → Hp → Prop} (h : Q true H) : tYes σ H Q := h
theorem cut1 {x : V} {xs : List V} : cutV (x :: xs) (some 1) none = xs := by
  have e : HT.sIx (x :: xs).length 0 (some 1) = 1 := by rw [show (1 : Int) = ((1 : Nat) : Int) from rfl, HT.sIx_nat]; simp
  unfold cutV
  rw [e, HT.sIx_none]
  simp
theorem at_n {xs : List V} {i : Nat} {x : V} (h : xs[i]? = some x) : atI xs (0 + (i : Int)) = some x := by rw [Int.zero_add]; exact atI_nat h
/-! ### merged -/
theorem take_more {α : Type} {l : List α} {i : Nat} {x : α} (h : l[i]? = some x) : l.take (i + 1) = l.take i ++ [x] := by rw [List.take_add_one, h]; rfl
theorem stV_len {H : Hp} {xs : List V} {st : List Bd} (h : BdsV H xs st) : xs.length = st.length := Paired.length h
theorem AllOk.take {st : List Bd} (h : AllOk st) (n : Nat) : AllOk (st.take n) := fun b hb => h b (List.mem_of_mem_take hb)
theorem AllOk.drop {st : List Bd} (h : AllOk st) (n : Nat) : AllOk (st.drop n) := fun b hb => h b (List.mem_of_mem_drop hb)
theorem AllOk.app {a b : List Bd} (h : AllOk a) (k : AllOk b) : AllOk (a ++ b) := fun x hx => by
  rcases List.mem_append.mp hx with z | z
  · exact h x z
  · exact k x z
theorem AllOk.one {b : Bd} (h : BdOk b) : AllOk [b] := fun x hx => by
  rw [List.mem_singleton] at hx
  rw [hx]; exact h
theorem sts_gr {x : Addr → Prop} {H H' : Hp} (g : Gr x H H') : ∀ {xs : List V} {cs : List (List Bd)}, Paired (StV H) xs cs → Paired (StV H') xs cs
  | _, _, .nil => .nil
  | _, _, .cons h t => .cons (h.gr g) (sts_gr g t)
abbrev nm_merged : List Str := ["states", "at", "state", "other", "k"]
theorem sc_merged : FnScope nm_merged ["states", "at"] (defScope (topS 34)) := ⟨rfl, rfl, rfl, by decide +kernel, rfl, by decide +kernel, by decide +kernel⟩
-- slots: 0:states 1:at 2:state 3:other 4:k
def spMerged (K : PySem.W.Frag) (C : Addr) : Sp := fun vs H Q E => ∃ (l : Addr) (n : Int) (xs : List V) (sts : List (List Bd)), vs = [.ref l, .int n] ∧ H l = some (.lst xs) ∧ Paired (StV H) xs sts ∧ sts ≠ [] ∧ sts.length ≤ 10000 ∧ (∀ s ∈ sts, s.length ≤ 10000) ∧ EOk C H E ∧
  ∀ H' u st, Gr no H H' → StV H' u st → st.length ≤ 10000 → (∀ s ∈ sts, SubS s st) → Q u H'
set_option maxHeartbeats 16000000 in
theorem c_merged (D : DefAt K mg "merged" 34 ["states", "at"]) (B : Blt mg) (T : PySem.BadX.BadTxt P K mg C fI) (c_union : Cal P w K mg base CX0 1 "union" ["a", "b"] spUnion) : Cal P w K mg base (L2.CX P w) 2 "merged" ["states", "at"] (spMerged K C) := by
  refine mkX D sc_merged (fun vs H Q E h => by obtain ⟨_, _, _, _, rfl, _⟩ := h; rfl) ?_
  rintro X Q vs H E ⟨f, cdv, A, outer, s, H0, rfl⟩ hr tk ⟨l, n, xs, sts, rfl, hl, hp, hne, hlen, hsz, he, q⟩
  refine ⟨_, (pss_cons (ps_set (i := 2) sc_merged.nd rfl (Or.inr rfl) (pe_ix ix_list (pv 0) pe_int (fun _ _ => rfl)))
      (pss_cons (ps_for (passes_of rfl) rfl (pi_list (pe_slice sl_list (pv 0) (po_some pe_int) po_none)) (pg_name (i := 3) sc_merged.nd rfl (Or.inr rfl)) (pss_cons (ps_if (pt_cmpR op_ne (pe_callB call_len_seq rfl B.len_ PySem.boot_len (pa_cons (pv 3) pa_nil)) (pe_callB call_len_seq rfl B.len_ PySem.boot_len (pa_cons (pv 2) pa_nil)) (nomark _)) (pss_one (ps_raise rfl tk (pmk_bad T hr (pa_cons (pv 1) (pa_cons pe_str pa_nil))))) pss_nil)
      (pss_cons (ps_for (passes_of rfl) rfl (pi_range1 rfl B.range_ (pa_cons (pe_callB call_len_seq rfl B.len_ PySem.boot_len (pa_cons (pv 2) pa_nil)) pa_nil)) (pg_name (i := 4) sc_merged.nd rfl (Or.inl rfl)) (pss_one (ps_if (pt_cmpR op_ne (pe_ix ix_tup (pe_ix ix_tup (pv 2) (pv 4) (fun _ _ => rfl)) pe_int (fun _ _ => rfl)) (pe_ix ix_tup (pe_ix ix_tup (pv 3) (pv 4) (fun _ _ => rfl)) pe_int (fun _ _ => rfl)) (nomark _)) (pss_one (ps_raise rfl tk (pmk_bad T hr (pa_cons (pv 1) (pa_cons pe_str pa_nil))))) pss_nil)))
      (pss_one (ps_set (i := 2) sc_merged.nd rfl (Or.inr rfl) (pe_callTy call_tuple_of rfl B.tuple_ (by decide +kernel) (pa_cons (pe_lc (own := [("k", 4)]) (g := gName 4) rfl sc_merged.nd (pi_range1 rfl B.range_ (pa_cons (pe_callB call_len_seq rfl B.len_ PySem.boot_len (pa_cons (pv 2) pa_nil)) pa_nil)) (blkOk_by (own := [("k", 4)]) (N := nm_merged) (sc := defScope (topS 34)) (by decide +kernel)) (fun _ _ _ _ _ => (pg_name (i := 4) sc_merged.nd rfl (Or.inl rfl))) (fun _ _ _ _ _ => pts_nil) (fun _ _ _ _ _ => (pc0 c_union hr (by decide) (pa_cons (pe_ix ix_tupB (pv 2) (pv 4) (fun _ _ => rfl)) (pa_cons (pe_ix ix_tupB (pv 3) (pv 4) (fun _ _ => rfl)) pa_nil))))) pa_nil)))))))
      (pss_one (ps_ret (pv 2))))), ?_⟩
  walk_at "K"
  obtain ⟨s0, sr, rfl⟩ : ∃ s0 sr, sts = s0 :: sr := by
    cases sts with
    | nil => exact absurd rfl hne
    | cons a r => exact ⟨a, r, rfl⟩
  obtain ⟨x0, xr, rfl⟩ : ∃ x0 xr, xs = x0 :: xr := by
    cases hp with
    | cons a b => exact ⟨_, _, rfl⟩
  obtain ⟨hp0, hpr⟩ : StV H x0 s0 ∧ Paired (StV H) xr sr := by
    cases hp with
    | cons a b => exact ⟨a, b⟩
  walk_at "go2"
  refine r_ixL hl at0 ?_
  walk_at "go2"
  refine s_for (i_lst ?_)
  walk_at "go2"
  refine ⟨l, _, rfl, SqL.of hl, fun L hL => ?_⟩
  rw [cut1]
  refine ⟨L, rfl, ⟨_, SqL.of upd_same⟩, ?_⟩
  refine for_list (K := K) (a := L) (xs := xr) (fun i σ H' => Gr no (upd H L (.lst xr)) H' ∧ ∃ u w3 w4, σ = [some (.ref l), some (.int n), some u, w3, w4] ∧ ∃ st, StV H' u st ∧ st.length ≤ 10000 ∧ ∀ s ∈ s0 :: sr.take i, SubS s st)
    ⟨Gr.refl _ _, _, _, _, rfl, s0, hp0.gr (Gr.new (x := no) hL), hsz _ (by simp), fun s hs => by rw [List.take_zero, List.mem_singleton] at hs; rw [hs]; exact SubS.refl _⟩ (fun i σ H' _ p => SqL.of (p.1.lst upd_same id)) ?_ ?_
  · rintro i y σ H' hy ⟨g, u, w3, w4, rfl, st, hst, hsl, hsub⟩
    have g1 : Gr no H H' := (Gr.new hL).trans g
    obtain ⟨ot, hot, hyo⟩ := Paired.getL hpr hy
    have hyo := hyo.gr g1
    obtain ⟨a, zs, rfl, ha, has, oka⟩ := hst
    obtain ⟨b, ys, rfl, hb, hbs, okb⟩ := hyo
    have lz := stV_len has
    have ly := stV_len hbs
    walk_at "go2"
    refine ⟨b, ys, rfl, .inr (SqT.of hb), ?_⟩
    walk_at "go2"
    refine ⟨a, zs, rfl, .inr (SqT.of ha), ?_⟩
    walk_at "go2"
    refine if_ndec (fun c1 => ?_) (fun c1 => ?_)
    · (walk_at "go2"; refine r_bad ?_; walk_at "go2"; exact ⟨rfl, fun d => he d _ (by walk_at "gr")⟩)
    · have hll : ys.length = zs.length := by have := V.int.inj c1; omega
      walk_at "go2"
      refine s_for (i_rng ?_)
      walk_at "go2"
      refine ⟨a, zs, rfl, .inr (SqT.of ha), ?_⟩
      refine ⟨_, rfl, by omega, by omega, ?_⟩
      rw [Int.toNat_natCast]
      refine for_range (fun j σ H'' => H'' = H' ∧ (∃ w4, σ = [some (.ref l), some (.int n), some (.ref a), some (.ref b), w4]) ∧ ∀ m, m < j → ∀ x y, st[m]? = some x → ot[m]? = some y → x.head = y.head) ⟨rfl, ⟨_, rfl⟩, fun m hm => absurd hm (Nat.not_lt_zero _)⟩ ?_ ?_
      · rintro j σ H'' hj ⟨rfl, ⟨w4, rfl⟩, hh⟩
        have ez : zs[j]? = some zs[j] := List.getElem?_eq_getElem hj
        have ey : ys[j]? = some ys[j] := List.getElem?_eq_getElem (by omega)
        obtain ⟨bz, hbz, vz⟩ := Paired.getL has ez
        obtain ⟨by', hby, vy⟩ := Paired.getL hbs ey
        obtain ⟨c1', r1, e1, k1⟩ := vz.hd
        obtain ⟨c2', r2, e2, k2⟩ := vy.hd
        rw [e1] at ez
        rw [e2] at ey
        walk_at "go2"
        refine r_ixT ha (at_n ez) ?_
        walk_at "go2"
        refine r_ixT hb (at_n ey) ?_
        walk_at "go2"
        refine if_sn (fun c2 => ?_) (fun c2 => ?_)
        · (walk_at "go2"; refine r_bad ?_; walk_at "go2"; exact ⟨rfl, fun d => he d _ (by walk_at "gr")⟩)
        · walk_at "go2"
          refine ⟨rfl, ⟨_, rfl⟩, fun m hm x y hx hy => ?_⟩
          rcases Nat.lt_or_ge m j with z | z
          · exact hh m z x y hx hy
          · have : m = j := by omega
            rw [this] at hx hy
            rw [hbz] at hx; rw [hby] at hy
            cases hx; cases hy
            exact c2
      · rintro σ H'' ⟨rfl, ⟨w4, rfl⟩, hh⟩
        walk_at "go2"
        refine r_lc (i_rng ?_)
        walk_at "go2"
        refine ⟨a, zs, rfl, .inr (SqT.of ha), ?_⟩
        refine ⟨_, rfl, by omega, by omega, ?_⟩
        rw [Int.toNat_natCast]
        intro D hD
        refine lc_range (fun j H3 => Gr (fun b => b = D) H'' H3 ∧ ∃ acc bs, H3 D = some (.lst acc) ∧ acc.length = j ∧ BdsV H3 acc bs ∧ AllOk bs ∧ SubS (st.take j) bs ∧ SubS (ot.take j) bs) ⟨Gr.own (Gr.refl _ _) hD, [], [], upd_same, rfl, .nil, (fun x hx => nomatch hx), .nil, .nil⟩ ?_ ?_
        · rintro j H3 hj ⟨g3, acc, bs, hDa, hla, hbs3, okbs, sub1, sub2⟩
          refine ⟨rfl, ?_⟩
          refine r_yes ?_
          have ez : zs[j]? = some zs[j] := List.getElem?_eq_getElem hj
          have ey : ys[j]? = some ys[j] := List.getElem?_eq_getElem (by omega)
          obtain ⟨bz, hbz, vz⟩ := Paired.getL has ez
          obtain ⟨by', hby, vy⟩ := Paired.getL hbs ey
          walk_at "go2"
          refine r_ixT (g3.tup _ _ ha) (at_n ez) ?_
          walk_at "go2"
          refine r_ixT (g3.tup _ _ hb) (at_n ey) ?_
          walk_at "go2"
          refine ⟨_, _, bz, by', rfl, vz.gr g3, vy.gr g3, oka _ (List.mem_of_getElem? hbz), okb _ (List.mem_of_getElem? hby), hh j hj _ _ hbz hby, fun H4 u c g4 hu hc s1 s2 => ?_⟩
          have hD4 : H4 D = some (.lst acc) := g4.lst hDa id
          have gp : Gr (fun b => b = D) H4 (upd H4 D (.lst (acc ++ [u]))) := Gr.put hD4 rfl
          refine ⟨acc, hD4, sz10 (by omega), (g3.trans g4.any).trans gp, acc ++ [u], bs ++ [c], upd_same, by simp [hla], BdsV.gr gp (Paired.app (BdsV.gr g4 hbs3) (.cons hu .nil)), okbs.app (.one hc), ?_, ?_⟩
          · rw [take_more hbz]; exact Paired.app sub1 (.cons s1 .nil)
          · rw [take_more hby]; exact Paired.app sub2 (.cons s2 .nil)
        · rintro H3 ⟨g3, acc, bs, hDa, hla, hbs3, okbs, sub1, sub2⟩
          have g4 : Gr no H'' H3 := g3.drop hD
          rw [lz, List.take_length] at sub1
          rw [show zs.length = ot.length by omega, List.take_length] at sub2
          walk_at "go2"
          refine ⟨D, acc, rfl, .inl ⟨SqL.of hDa, fun R hR => ?_⟩⟩
          walk_at "go2"
          have hls : bs.length = st.length := (Paired.length sub1).symm
          refine ⟨(g.trans g4).trans (Gr.new hR), _, _, _, rfl, bs, ⟨R, acc, rfl, upd_same, hbs3.gr (Gr.new (x := no) hR), okbs⟩, by omega, fun s hs => ?_⟩
          rw [take_more hot] at hs
          rcases List.mem_cons.mp hs with rfl | hs
          · exact (hsub s (by simp)).trans sub1
          · rcases List.mem_append.mp hs with hs | hs
            · exact (hsub s (List.mem_cons_of_mem _ hs)).trans sub1
            · rw [List.mem_singleton] at hs
              rw [hs]; exact sub2
  · rintro σ H' ⟨g, u, w3, w4, rfl, st, hst, hsl, hsub⟩
    walk_at "go2"
    refine q _ _ st ((Gr.new hL).trans g) hst hsl (fun s hs => hsub s ?_)
    rw [Paired.length hpr, List.take_length]
    exact hs
end
end Snk
set_option Elab.async false
set_option linter.all false
set_option maxRecDepth 100000
set_option maxHeartbeats 4000000
/-! # all(word in kind[1] for word in words) over a tuple of texts -/
namespace GxT
open PySem PySem.Spec PyProof.Rows L2 GxR
section
variable {X : Cx} {pins : List (Addr × Obj)} {σ : L2.St} {H : Hp} {s : Shared}
/-- the test at place j -/
def trS (pb : Str → Bool) (l : List Str) (j : Nat) : Bool := match l[j]? with
  | some b => pb b
  | none => false
theorem trS_some {pb : Str → Bool} {l : List Str} {j : Nat} {b : Str} (h : l[j]? = some b) : trS pb l j = pb b := by
  unfold trS
  rw [h]
theorem all_trS (l : List Str) (pb : Str → Bool) : (List.range l.length).all (trS pb l) = l.all pb := by
  rw [Bool.eq_iff_iff, List.all_eq_true, List.all_eq_true]
  constructor
  · intro h b hb
    obtain ⟨j, hj, e⟩ := List.getElem_of_mem hb
    have q := h j (List.mem_range.mpr hj)
    rw [trS_some (List.getElem?_eq_getElem hj), e] at q
    exact q
  · intro h j hj
    have hj' := List.mem_range.mp hj
    rw [trS_some (List.getElem?_eq_getElem hj')]
    exact h _ (List.getElem_mem hj')
/-- the element: a test of the text w -/
def EltQ (X : Cx) (P : Addr) (s1 : Shared) (scope : Scope) (x : Str) (elt : Expr) (pb : Str → Bool) : Prop :=
  ∀ (C : Addr) (code : Value) (bi : Addr) (A' : Around) (E' : Value → Shared → Prop) (c : Str) (t : Tok) (s₂ : Shared) (m₂ : Str → Option Value), (∀ b o, b ≠ P → s1.heap.get? b = some o → s₂.heap.get? b = some o) → s₂.heap.Ns C m₂ → m₂ x = some (.str c t) →
    wpAny (model X.prog X.w) A' (eval elt (genEnv scope (cloFrom X.env.cells scope.names []) C code bi X.env)) (fun y s₃ => y = .bool (pb c) ∧ Keeps s₂ s₃) E' s₂
def ReadyT (X : Cx) (pins : List (Addr × Obj)) (σ : L2.St) (H1 : Hp) (P : Addr) (a : List Str) (pb : Str → Bool) (g : Addr) (s5 : Shared) : Prop :=
  ∃ (n : Nat) (fp wr : List Addr) (G : Array GenState → Array GenState → Prop) (F : Nat → Value → Prop) (St : Nat → Shared → Prop), n = a.length ∧
    WalksS X.prog X.w X.A.in1 g fp wr G n F St ∧ St 0 s5 ∧
    TruthOf X.prog X.w X.A.in1 F (trS pb a) ∧
    ∀ s', Moved wr G s5 s' → ∃ H2, Tabbed P H1 H2 ∧ Inv X pins σ H2 s'
theorem strs_get : ∀ {ws : List Str} {its : List Value} {i : Nat} {v : Value}, Vals (ws.map V.str) its → its[i]? = some v → ∃ w t, ws[i]? = some w ∧ v = .str w t
  | [], _, i, v, .nil, e => by simp at e
  | w :: ws, _, 0, v, .cons r _, e => by
    obtain ⟨t, rfl⟩ := r
    exact ⟨w, t, rfl, by simpa using e.symm⟩
  | w :: ws, _, i + 1, v, .cons _ r, e => by
    obtain ⟨w', t, a, b⟩ := strs_get (i := i) r (by simpa using e)
    exact ⟨w', t, by simpa using a, b⟩
theorem gen_tup {c P : Addr} {elt iter : Expr} {x : Str} {px gpos : Pos} {scope : Scope} {te : TE} {k : Nat} {Q' : Value → Shared → Prop} {R : List Str → (Str → Bool) → Hp → Prop}
    (hr : Room k X.A) (TB : TabB X.base X.mg c P) (hcode : X.env.code = .ref c) (S : GenS X.env scope x) (hi : PE X iter te)
    (hs : ∀ v, genFold iter X.env v = pure v) (I : Inv X pins σ H s) {Q0 : VK} (h : te σ H Q0) (h0 : ∀ v H1, Q0 v H1 → ∃ (a : Addr) (ws : List Str) (pb : Str → Bool), v = .ref a ∧ H1 a = some (.tup (ws.map V.str)) ∧ TabG H1 P ∧ (∀ s1, Inv X pins σ H1 s1 → EltQ X P s1 scope x elt pb) ∧ R ws pb H1)
    (hQ : ∀ a pb H1 g s5, R a pb H1 → ReadyT X pins σ H1 P a pb g s5 → Q' (.ref g) s5) :
    wpAny (model X.prog X.w) X.A (eval (.GeneratorExp elt [⟨.Name x px, iter, [], 0⟩] scope gpos) X.env) Q' X.xe s := by
  refine wpAny_GeneratorExp_walksQ hr.hd S.co (closure_ok S.free) S.cell S.dot S.loc S.kind (by have := hr.dp; omega) ?_ hs
  refine thn (hi.run pins s σ H _ I h) fun xv s1 ⟨v, H1, I1, r1, q1⟩ => ?_
  obtain ⟨a, ws, pb, rfl, ha, ⟨ps, hP, ht⟩, hel0, q1⟩ := h0 v H1 q1
  obtain rfl : xv = Value.ref a := r1
  have hel := hel0 s1 I1
  obtain ⟨its, rv, htup, _⟩ := I1.tuple (SqT.of ha)
  have haP : a ≠ P := fun z => by rw [z, hP] at ha; cases ha
  have hisz : its.toArray.size = ws.length := by rw [List.size_toArray, ← rv.length, List.length_map]
  refine wpAny_pyIter_tuple htup ?_
  generalize ho : ({ cls := .type "tuple_iterator", data := .fields #[.ref a, .int 0 0] } : Obj) = o
  have hal : a < s1.heap.objs.size := by obtain ⟨oa, e, _⟩ := htup; exact Heap.lt_size e
  have hne : a ≠ s1.heap.objs.size := Nat.ne_of_lt hal
  have W : ∀ A' : Around, A'.handled = none → Walks X.prog X.w A' s1.heap.objs.size [s1.heap.objs.size, a] [s1.heap.objs.size] its.toArray.size (fun i v => its.toArray[i]? = some v) (fun i h => h.IsTupleIter s1.heap.objs.size a i ∧ h.IsTuple a its.toArray) := fun A' hA => Walks.tuple hA _ a hne its.toArray
  have hst : (s1.heap.push o).IsTupleIter s1.heap.objs.size a 0 ∧ (s1.heap.push o).IsTuple a its.toArray := by
    refine ⟨⟨o, Heap.get?_push_size _ (by rw [← ho]; rfl), ?_, ?_⟩, ?_⟩
    · rw [← ho]
    · rw [← ho]; rfl
    · obtain ⟨oa, e, r⟩ := htup
      exact ⟨oa, Heap.get?_push_of_some _ e, r⟩
  have hPs : s1.heap.get? P = some { cls := .none, data := .fields ps } := I1.hok P _ hP
  have hPlt : P < s1.heap.objs.size := Heap.lt_size hPs
  have hP2 : (s1.heap.push o).get? P = some { cls := .none, data := .fields ps } := Heap.get?_push_of_some _ hPs
  have cd : PySem.W.CodeHd (s1.heap.push o) c P := TB.code.keeps fun b u e => Heap.get?_push_of_some _ (I1.bk b u e)
  have lim2 : (s1.heap.push o).NoLimit := I1.nolimit.push o
  have cont : ∀ (code : Value) (h3 : Heap) (tk : Nat) (ps' : Array Value), Heap.ExtBut P (s1.heap.push o) h3 → (s1.heap.push o).objs.size ≤ h3.objs.size → h3.get? P = some { cls := .none, data := .fields ps' } → (∃ more, ps' = ps ++ more) → TriplesOk ps'.toList →
      wpAny (model X.prog X.w) X.A (builtinsFor X.env.globals X.env.builtins) (fun bi s₄ =>
        ∃ Ia fp wr n₀ Pf St₀ pz F, Value.ref s1.heap.objs.size = .ref Ia ∧ (∀ A' : Around, A'.handled = none → Walks X.prog X.w A' Ia fp wr n₀ Pf St₀) ∧ St₀ 0 s₄.heap ∧ (∀ b ∈ fp, b < s₄.heap.objs.size) ∧ s₄.heap.NoLimit ∧ cStatics ∉ wr ∧
          (∀ href : Heap, (∀ b o, s₄.heap.get? b = some o → href.get? b = some o) →
            QuietGen X.prog X.w (genEnv scope (cloFrom X.env.cells scope.names []) s₄.heap.objs.size code bi X.env) x [] elt (List.range s₄.heap.objs.size) wr Pf pz F href) ∧
          (∀ a h₅ tk gs, gs.bare = true → s₄.heap.objs.size < a → h₅.objs.size = a + 1 → (∀ b o, s₄.heap.get? b = some o → h₅.get? b = some o) →
            WalksS X.prog X.w X.A.in4 a (a :: s₄.heap.objs.size :: List.range s₄.heap.objs.size) (s₄.heap.objs.size :: wr) (GenOnlyQ s₄.gens.size) (passing pz n₀ 0).length
              (fun j y => ∃ i, (passing pz n₀ 0)[j]? = some i ∧ F i y) (GenAt X.prog X.w X.A.in4 a s₄.gens.size s₄.heap.objs.size (List.range s₄.heap.objs.size) wr pz n₀ F) →
            GenAt X.prog X.w X.A.in4 a s₄.gens.size s₄.heap.objs.size (List.range s₄.heap.objs.size) wr pz n₀ F 0 { s₄ with gens := s₄.gens.push gs, toks := tk, heap := h₅ } →
            Q' (.ref a) { s₄ with gens := s₄.gens.push gs, toks := tk, heap := h₅ })) X.xe { s1 with heap := h3, toks := tk } := by
    intro code h3 tk ps' hx hsz hP3 hmore ht3
    obtain ⟨bm, ob, e1, e2, e3, e4, e5, e6, e7, e8⟩ := TB.bm
    have hcP : cStatics ≠ P := fun e => by
      obtain ⟨_, hns, _⟩ := I1.nolimit
      obtain ⟨o', es, ep, ho, hd, _⟩ := hns
      rw [e, hPs] at ho
      cases ho
      cases hd
    have hcl : cStatics < s1.heap.objs.size := let ⟨_, hns, _⟩ := I1.nolimit; hns.lt
    have sz2 : (s1.heap.push o).objs.size = s1.heap.objs.size + 1 := Heap.size_push ..
    have keep3 : ∀ b u, b ≠ P → s1.heap.get? b = some u → h3.get? b = some u := fun b u hb e => hx b u hb (Heap.get?_push_of_some _ e)
    refine wpAny_builtinsFor (m := X.mg) (by rw [I1.ok.glob]; exact ((I1.mod.glob.keeps I1.bk).push o).extBut hx TB.gP) e1 e2 (keep3 _ _ e4 (I1.bk _ _ e5)) e6 e7 e8 ?_
    refine ⟨s1.heap.objs.size, [s1.heap.objs.size, a], [s1.heap.objs.size], its.toArray.size, (fun i v => its.toArray[i]? = some v), _, (fun _ => true), (fun i y => ∃ w, ws[i]? = some w ∧ y = .bool (pb w)), rfl, W, ?_, ?_, lim2.extBut hx hcP, ?_, ?_, ?_⟩
    · refine (W X.A hr.hd).frame _ _ _ hst fun b hb u e => hx b u (fun z => ?_) e
      rcases List.mem_cons.mp hb with z2 | z2
      · exact Nat.ne_of_lt hPlt (z.symm.trans z2)
      · rw [List.mem_singleton] at z2
        exact haP (z2.symm.trans z)
    · intro b hb
      rcases List.mem_cons.mp hb with z | z
      · rw [z]
        show s1.heap.objs.size < h3.objs.size
        omega
      · rw [List.mem_singleton] at z
        rw [z]
        exact Nat.lt_of_lt_of_le hal (show s1.heap.objs.size ≤ h3.objs.size by omega)
    · intro z
      rcases List.mem_cons.mp z with z | z
      · exact Nat.ne_of_lt hcl z
      · cases z
    · intro href hhref
      refine ⟨fun A' E' i v s₂ m₂ hA hPv hn hm hk => ?_, fun A' E' i v s₂ m₂ hA hPv hp hn hm hk => ?_⟩
      · simp only [List.forIn_nil]
        exact wpAny_pure ⟨rfl, keeps_refl _⟩
      · obtain ⟨wd, u, hcc, rfl⟩ := strs_get (i := i) rv (by simpa using hPv)
        refine wpAny_mono (hel _ _ _ A' E' wd u s₂ m₂ (fun b o hb e => ?_) hn hm) (fun y s3 r => ⟨⟨wd, hcc, r.1⟩, r.2⟩) fun _ _ e => e
        have hbl := Heap.lt_size e
        refine hk b (List.mem_range.mpr (show b < h3.objs.size from Nat.lt_of_lt_of_le hbl (by omega))) (fun z => ?_) o (hhref b o (keep3 b o hb e))
        rw [List.mem_singleton] at z
        rw [z] at hbl
        exact Nat.lt_irrefl _ hbl
    · intro g h5 tk5 gs hgb hag hsz5 hk5 W5 hat
      simp only [GxR.passing_true, List.length_range] at W5
      refine hQ ws pb H1 g _ q1 ⟨_, _, _, _, _, _, hisz, W5.in4_1, hat, ?_, fun s' hm => ?_⟩
      · intro j y sj Qj Ej hy hQj
        obtain ⟨i, hij, cc, hcc, rfl⟩ := hy
        obtain ⟨hj, ej⟩ := List.getElem?_eq_some_iff.mp hij
        rw [List.getElem_range] at ej
        subst ej
        have hQ2 : Qj (trS pb ws j) sj := hQj
        rw [trS_some hcc] at hQ2
        exact wpAny_truthy_bool hQ2
      · obtain ⟨more, em⟩ := hmore
        have nwr : ∀ b u, s1.heap.get? b = some u → b ∉ h3.objs.size :: [s1.heap.objs.size] := fun b u e hb => by
          have hl := Heap.lt_size e
          rcases List.mem_cons.mp hb with z | z
          · rw [z] at hl
            have h9 : (h3.objs.size : Nat) < s1.heap.objs.size := hl
            omega
          · rcases List.mem_cons.mp z with z | z
            · rw [z] at hl
              exact Nat.lt_irrefl _ hl
            · cases z
        have J := inv_tab (more := more) (h' := s'.heap) (g' := s'.gens) (d' := s'.drawn) (t' := s'.toks) I1 hP (fun b u hb e => hm.heap b u (nwr b u e) (hk5 b u (keep3 b u hb e)))
          (by rw [← em]; exact hm.heap P _ (nwr P _ hPs) (hk5 P _ hP3)) (AllBare.movedS (I1.bare.push hgb) hm)
        rw [sh_eta s1 s' hm.os] at J
        refine ⟨upd H1 P (.tbl (ps ++ more)), ⟨⟨ps ++ more, upd_same, by rw [← em]; exact ht3⟩, fun b hb => upd_ne hb⟩, J⟩
  refine ⟨lim2, ?_⟩
  cases hf : codeAmong gpos ps.toList with
  | none =>
    refine wpAny_genexprCodeX hcode (cd.code hP2 ht) (cd.tab hP2) hf fun c' h' tk hx hge hlt hco' _ htab' _ => ?_
    obtain ⟨o1, vs, f1, tf, fl, tg, inF, tx, tt, op, _, _, _, _, _, _, _, _, _, htr, _⟩ := hco'
    exact cont _ h' tk _ hx (Nat.le_trans hge (Nat.le_of_lt hlt)) htab'.2 ⟨_, rfl⟩ htr
  | some cv =>
    refine wpAny_genexprCode_hit hcode (cd.code hP2 ht) hf ?_
    exact cont cv (s1.heap.push o) s1.toks ps (Heap.ExtBut.refl _ _) (Nat.le_refl _) hP2 ⟨#[], by simp⟩ ht

theorem tup_kept {h h' : Heap} {a : Addr} {its : Array Value} (t : IsTup h a its) (k : ∀ o, h.get? a = some o → h'.get? a = some o) : IsTup h' a its := by
  obtain ⟨o, e, r⟩ := t
  exact ⟨o, k o e, r⟩
theorem elt_in {P : Addr} {s1 : Shared} {H1 : Hp} {scope : Scope} {x kn : Str} {ik : Nat} {kk b : Addr} {hd : V} {zs : List Str} {p1 p2 p3 p4 p5 : Pos} {j1 : Nat} (I1 : L2.Inv X pins σ H1 s1) (hT : TabG H1 P) (hN : X.N[ik]? = some kn) (hv : X.env.scope.names.lookup kn = some .cell)
    (hk : scope.kind = .function) (hl : scope.names.lookup x = some .local) (hf : scope.names.lookup kn = some .free) (hclo : (cloFrom X.env.cells scope.names []).lookup kn = X.env.cells.lookup kn) (hσ : σ[ik]? = some (some (.ref kk))) (e1 : H1 kk = some (.tup [hd, .ref b])) (e2 : H1 b = some (.tup (zs.map V.str)))
    (hd1 : (x == ("__debug__" : Str)) = false := by decide) (hd2 : (kn == ("__debug__" : Str)) = false := by decide) (hd3 : (kn == ("__classdict__" : Str)) = false := by decide) :
    EltQ X P s1 scope x (.Compare (.Name x p1) [.In] [.Subscript (.Name kn p2) (.Constant (.int 1) j1 p3) p4] p5) (fun c => decide (c ∈ zs)) := by
  intro C code bi A' E' c t s₂ m₂ hk2 hn hm
  obtain ⟨ps, hP, _⟩ := hT
  have hPs : s1.heap.get? P = some { cls := .none, data := .fields ps } := I1.hok P _ hP
  obtain ⟨m, _, hloc⟩ := I1.loc
  obtain ⟨u, ru, lk⟩ := hloc ik kn (.ref kk) hN hσ (.inr (.inl hv))
  obtain rfl : u = Value.ref kk := ru
  obtain ⟨cc, hcc, ho⟩ : ∃ cc, X.env.cells.lookup kn = some cc ∧ s1.heap.IsCell cc (some (.ref kk)) := by
    rcases lk with ⟨z, _⟩ | ⟨_, z⟩
    · have z' : X.env.scope.names.lookup kn = some .local := z
      rw [hv] at z'; cases z'
    · exact z
  have hc2 : s₂.heap.IsCell cc (some (.ref kk)) := by
    obtain ⟨o, eo, ed⟩ := ho
    refine ⟨o, hk2 cc o (fun z => ?_) eo, ed⟩
    rw [z, hPs] at eo
    cases eo
    cases ed
  obtain ⟨its1, r1, t1, _⟩ := I1.tuple (SqT.of e1)
  obtain ⟨its2, r2, t2, _⟩ := I1.tuple (SqT.of e2)
  have t1' := tup_kept t1 (fun o e => hk2 kk o (fun z => by rw [z, hP] at e1; cases e1) e)
  have t2' := tup_kept t2 (fun o e => hk2 b o (fun z => by rw [z, hP] at e2; cases e2) e)
  have hb : its1.toArray[1]? = some (Value.ref b) ∧ its1.toArray.size = 2 := by
    cases r1 with
    | cons _ r =>
      cases r with
      | cons q r =>
        cases r
        obtain rfl := q
        exact ⟨rfl, rfl⟩
  refine wpAny_Compare1 ?_
  refine wpAny_Name (wpAny_loadName_local hk (show scope.names.lookup x = some .local from hl) hn hm ?_) hd1
  refine Subscript_ ?_
  refine wpAny_Name (wpAny_loadName_free hk (show scope.names.lookup kn = some .free from hf) (hclo.trans hcc) hc2 ?_ hd3) hd2
  refine wpAny_Constant_int ?_
  refine subscriptTail_builtinR (x := Value.ref b) (s := { s₂ with toks := s₂.toks + 1 }) t1'.typeIs slot_tuple_getitem.lookup
    (getItem_tuple (j := 1) (s := { s₂ with toks := s₂.toks + 1 }) t1' (by decide) (by decide) (by rw [hb.2]; rfl) hb.1 ⟨rfl, ?_⟩)
  refine SeqAt.in_tupleAt (s := { s₂ with toks := s₂.toks + 1 }) (eqU (.str c)) t2' (fun w hw => mem_eqAt (x := .str c) ⟨t, rfl⟩ rfl r2 Snk.flat_strs w (by simpa using hw)) ⟨?_, keeps_tok _ _⟩
  rw [show its2.toArray.any (eqU (.str c)) = its2.any (eqU (.str c)) by simp, any_eqU r2 Snk.flat_strs]
  exact congrArg Value.bool (Snk.inV_str (s := c) (l := zs))
/-- all(word in kind[1] for word in e), e a tuple of texts, kind a captured name; behind it the def's table may have grown -/
def tAllT (P : Addr) (ik : Nat) (te : TE) : TE := fun σ H Q => te σ H fun v H1 => ∃ (a kk b : Addr) (ws zs : List Str) (hd : V), v = .ref a ∧ H1 a = some (.tup (ws.map V.str)) ∧ σ[ik]? = some (some (.ref kk)) ∧ H1 kk = some (.tup [hd, .ref b]) ∧ H1 b = some (.tup (zs.map V.str)) ∧ TabG H1 P ∧
  ∀ H2, Tabbed P H1 H2 → Q (.bl (ws.all fun s => decide (s ∈ zs))) H2
theorem pe_allT {c P : Addr} {iter : Expr} {x kn : Str} {ik : Nat} {px p pos gpos p1 p2 p3 p4 p5 : Pos} {j1 : Nat} {scope : Scope} {te : TE} {k : Nat}
    (hr : Room k X.A) (hg : Gl X "all") (hm : X.mg "all" = none) (hb : bootBuiltins "all" = some (.builtin "all")) (TB : TabB X.base X.mg c P) (hcode : X.env.code = .ref c) (S : GenS X.env scope x) (hi : PE X iter te)
    (hN : X.N[ik]? = some kn) (hv : X.env.scope.names.lookup kn = some .cell) (hf : scope.names.lookup kn = some .free) (hclo : (cloFrom X.env.cells scope.names []).lookup kn = X.env.cells.lookup kn)
    (hd1 : (x == ("__debug__" : Str)) = false := by decide) (hd2 : (kn == ("__debug__" : Str)) = false := by decide) (hd3 : (kn == ("__classdict__" : Str)) = false := by decide)
    (hs : ∀ v, genFold iter X.env v = pure v := by intro _; rfl)
    (he : starEach [.GeneratorExp (.Compare (.Name x p1) [.In] [.Subscript (.Name kn p2) (.Constant (.int 1) j1 p3) p4] p5) [⟨.Name x px, iter, [], 0⟩] scope gpos] X.env = (false, eval (.GeneratorExp (.Compare (.Name x p1) [.In] [.Subscript (.Name kn p2) (.Constant (.int 1) j1 p3) p4] p5) [⟨.Name x px, iter, [], 0⟩] scope gpos) X.env) :: starEach [] X.env := by rfl) :
    PE X (.Call (.Name "all" p) [.GeneratorExp (.Compare (.Name x p1) [.In] [.Subscript (.Name kn p2) (.Constant (.int 1) j1 p3) p4] p5) [⟨.Name x px, iter, [], 0⟩] scope gpos] [] pos) (tAllT P ik te) := by
  refine ⟨fun pins s σ H Q I h => ?_⟩
  refine wpAny_Call_Name_kw (ld_blt I hg hm hb ?_)
  refine PyProof.Rows.callWith_builtin1 ?_ he (by rfl)
  rw [he]
  show wpAny _ _ (spliced ((false, eval (.GeneratorExp (.Compare (.Name x p1) [.In] [.Subscript (.Name kn p2) (.Constant (.int 1) j1 p3) p4] p5) [⟨.Name x px, iter, [], 0⟩] scope gpos) X.env) :: backTo pos (starEach [] X.env))) _ _ s
  have I0 := I
  refine Calls.spliced_cons (gen_tup (σ := σ) (R := fun ws pb H1 => ∀ H2, Tabbed P H1 H2 → Q (.bl (ws.all pb)) H2) hr TB hcode S hi hs I h (fun v H1 q => ?_) fun a pb H1 g s5 hR hG => ?_)
  · obtain ⟨a, kk, b, ws, zs, hd, ev, ha, e0, e1, e2, hT, q⟩ := q
    exact ⟨a, ws, _, ev, ha, hT, fun s1 I1 => elt_in I1 hT hN hv S.kind S.loc hf hclo e0 e1 e2 hd1 hd2 hd3, q⟩
  obtain ⟨n, fp, wr, G, F, St, hn, W, hst, htr, hI⟩ := hG
  refine Calls.spliced_nil ?_
  refine call_all_walkS (W.self 0 _ _ _ hst ⟨g, fp, wr, G, _, F, St, _, rfl, W, hst, htr, fun s' hmv => ?_⟩)
  obtain ⟨H2, hT, J⟩ := hI s' hmv
  refine ⟨.bl _, H2, J, rfl, ?_⟩
  rw [hn, all_trS]
  exact hR H2 hT
end
end GxT
set_option Elab.async false
set_option linter.all false
set_option maxRecDepth 100000
set_option maxHeartbeats 4000000
namespace Snk
open PySem PySem.Spec PyProof.Rows L2 GxR GxT
local macro_rules | `(tactic| walk_at "K") => `(tactic| try simp only [ws_K, ws_P, ws_w, cx_K, cx_P, cx_w])
local macro_rules | `(tactic| walk_at "isi") => `(tactic| first
  | with_reducible refine r_isB (.base (.int _)) kk_int_int ?_ | with_reducible refine r_isB (.base (.int _)) kk_int_bool ?_ | with_reducible refine r_isB (.base (.int _)) kk_int_str ?_ | with_reducible refine r_isB (.base (.int _)) kk_int_tuple ?_ | with_reducible refine r_isB (.base (.bl _)) kk_bool_int ?_ | with_reducible refine r_isB (.base (.bl _)) kk_bool_bool ?_ | with_reducible refine r_isB (.base (.bl _)) kk_bool_str ?_ | with_reducible refine r_isB (.base (.bl _)) kk_bool_tuple ?_ | with_reducible refine r_isB (.base (.str _)) kk_str_int ?_ | with_reducible refine r_isB (.base (.str _)) kk_str_bool ?_ | with_reducible refine r_isB (.base (.str _)) kk_str_str ?_ | with_reducible refine r_isB (.base (.str _)) kk_str_tuple ?_ | with_reducible refine r_isB (.base .non) kk_NoneType_int ?_ | with_reducible refine r_isB (.base .non) kk_NoneType_bool ?_ | with_reducible refine r_isB (.base .non) kk_NoneType_str ?_ | with_reducible refine r_isB (.base .non) kk_NoneType_tuple ?_ | with_reducible refine r_isB (.base (.tup (by assumption))) kk_tuple_int ?_ | with_reducible refine r_isB (.base (.tup (by assumption))) kk_tuple_bool ?_ | with_reducible refine r_isB (.base (.tup (by assumption))) kk_tuple_str ?_ | with_reducible refine r_isB (.base (.tup (by assumption))) kk_tuple_tuple ?_)
local macro_rules | `(tactic| tb_rel) => `(tactic| first | assumption | exact upd_same | ((refine look_old ?hl ?hn); (case hn => assumption); (case hl => tb_rel)) | ((refine Gr.tup (by assumption) _ _ ?hl); (case hl => tb_rel)))
local macro_rules | `(tactic| tb_start) => `(tactic| first
  | ((with_reducible refine' r_var ?hvar ?_); (case hvar => exact rfl))
  | with_reducible refine r_c ?_ | with_reducible refine r_op ?_ | with_reducible refine r_un ?_ | with_reducible refine r_chain ?_ | with_reducible refine r_tup ?_ | with_reducible refine r_lst ?_ | with_reducible refine r_cons ?_ | with_reducible refine r_nil ?_ | with_reducible refine r_cb ?_ | with_reducible refine r_call ?_ | with_reducible refine r_bm ?_ | with_reducible refine r_bm0 ?_ | with_reducible refine r_sl ?_ | with_reducible refine r_test ?_ | with_reducible refine r_tb ?_ | with_reducible refine r_tand ?_ | with_reducible refine r_tor ?_ | with_reducible refine r_tnot ?_ | with_reducible refine r_andV ?_ | with_reducible refine r_orV ?_ | with_reducible refine r_notV ?_ | with_reducible refine r_ife ?_ | with_reducible refine s_seq ?_ | with_reducible refine s_nextM ?_ | with_reducible refine s_next ?_ | with_reducible refine s_ret ?_ | with_reducible refine s_if ?_ | with_reducible refine s_asg ?_ | with_reducible refine s_drop ?_ | with_reducible refine s_cont ?_ | with_reducible refine s_break ?_ | with_reducible refine g_name ?_ | with_reducible refine r_I0 ?_ | with_reducible refine r_U ?_ | with_reducible refine k_bl2 ?_ | with_reducible refine r_part ?_ | with_reducible refine r_nopart ?_ | with_reducible refine if_tt ?_ | with_reducible refine if_ff ?_ | with_reducible refine if_nf ?_ | with_reducible refine if_nt ?_
  | ((with_reducible refine' r_eq ?hsc ?_); (case hsc => exact rfl)) | ((with_reducible refine' r_ne ?hsc ?_); (case hsc => exact rfl)) | ((with_reducible refine isi_g ?_); walk_at "isi") | (first | ((with_reducible refine' r_ixT ?hix ?eix ?_); (case hix => tb_rel); (case eix => first | exact at0 | exact at1 | exact at2 | rfl))) | ((with_reducible refine' if_t ?hc ?_); (case hc => decide +kernel)) | ((with_reducible refine' if_f ?hc ?_); (case hc => decide +kernel)))
local macro_rules | `(tactic| walk_at "go") => `(tactic| repeat tb_start)
local macro_rules | `(tactic| walk_at "gr") => `(tactic| first | exact Gr.refl _ _ | assumption | ((refine Gr.trans ?ga (Gr.new ?gn)); (case gn => assumption); (case ga => walk_at "gr")) | ((refine' Gr.trans ?ga ?gb); (case gb => assumption); (case ga => walk_at "gr")))
local macro_rules | `(tactic| walk_at "go2") => `(tactic| repeat (first | tb_start | (((with_reducible refine' And.intro ?hz ?_); (case hz => (refine sz10 ?_; first | decide | (simp; done) | (simp; omega))); intro p hp)) | (first | ((with_reducible refine' r_inT ?hs ?hf ?ha ?_); (case hs => first | assumption | exact SqT.of (by tb_rel)); (case hf => rfl); (case ha => first | rfl | decide +kernel | exact flat_strs)) | ((with_reducible refine' r_niT ?hs ?hf ?ha ?_); (case hs => first | assumption | exact SqT.of (by tb_rel)); (case hf => rfl); (case ha => first | rfl | decide +kernel | exact flat_strs)))))
local macro_rules | `(tactic| tb_start) => `(tactic| with_reducible refine k_int ?_)
/-- a def whose code object is at c -/
structure DefC (K : PySem.W.Frag) (mg : Str → Option Value) (x : Str) (i : Nat) (ps : List Str) (c : Addr) : Prop where
  ex : ∃ (f : Addr) (oc : Value) (od : Option Addr) (dV kV doc pm : Value) (an : Option Addr) (ct : Value) (osl : Array (Option Value)), K.lookup f = some ⟨oc, od, .func (PySem.W.fnOf x x (defArgs (topS i)) (defBody (topS i)) (defScope (topS i)) dV kV doc pm an (.ref c) ct), osl⟩ ∧
    PySem.W.codeIn K (.ref c) x = true ∧ mg x = some (.ref f) ∧ PySem.W.keepIn K (.ref f) = true ∧ Binds K (PySem.W.fnOf x x (defArgs (topS i)) (defBody (topS i)) (defScope (topS i)) dV kV doc pm an (.ref c) ct) ps []
theorem TabG.gr {x : Addr → Prop} {H H' : Hp} {T : Addr} (g : Gr x H H') (t : TabG H T) : TabG H' T := by
  obtain ⟨ps, h, k⟩ := t
  obtain ⟨ps', h', k'⟩ := g.tab _ _ h
  exact ⟨ps', h', k' k⟩
theorem Tabbed.gr {x : Addr → Prop} {H H' : Hp} {T : Addr} (t : TabG H T) (b : Tabbed T H H') : Gr x H H' := by
  obtain ⟨ps, h, k⟩ := t
  obtain ⟨⟨ps', h', k'⟩, q⟩ := b
  refine ⟨fun c o e _ nt => ?_, fun c xs e => ?_, fun c qs e => ?_, fun c e => ?_⟩
  · rw [q c (fun z => by rw [z, h] at e; exact nt ps (Option.some.inj e).symm)]; exact e
  · rw [q c (fun z => by rw [z, h] at e; cases e)]; exact e
  · by_cases z : c = T
    · rw [z]
      exact ⟨ps', h', fun _ => k'⟩
    · exact ⟨qs, by rw [q c z]; exact e, id⟩
  · rw [q c (fun z => by rw [z, h'] at e; cases e)] at e; exact e
section
variable {P : Program} {w : World} {K : PySem.W.Frag} {mg : Str → Option Value} {base : Heap} {k : Nat} {x : Str} {i : Nat} {N ps : List Str} {sp : Sp} {c : Addr}
theorem mkC (D : DefC K mg x i ps c) (S : FnScope N ps (defScope (topS i))) (len : ∀ vs H Q E, sp vs H Q E → vs.length = ps.length)
    (hb : ∀ (X : Cx) (Q : VK) (vs : List V) (H : Hp) (E : XK), (∃ f A outer s H0, X = (cxOf CX0 P w K mg base N x (defScope (topS i)) f (.ref c) A outer s H0 E).nox) → Room k X.A → sp vs H Q E →
      ∃ t, PSs X (defBody (topS i)) t ∧ t { nx := fun _ H' => Q .non H', rt := Q } (start N vs) H) : Cal P w K mg base CX0 (k + 1) x ps sp := by
  obtain ⟨f, oc, od, dV, kV, doc, pm, an, ct, osl, lk, hcd, m, kp, b⟩ := D.ex
  refine ⟨f, _, m, kp, b, fn_of lk hcd S len fun A outer s H vs Q E hr h => ?_⟩
  obtain ⟨t, ht, hq⟩ := hb _ Q vs H E ⟨f, A, outer, s, H, rfl⟩ hr h
  exact ⟨t, ht.nox, hq⟩
end
section
variable {P : Program} {w : World} {K : PySem.W.Frag} {mg : Str → Option Value} {base : Heap} {c T : Addr}
/-! ### within -/
abbrev nm_within : List Str := ["kind", "bounds"]
theorem sc_within : FnScope nm_within ["kind", "bounds"] (defScope (topS 20)) := ⟨rfl, rfl, rfl, by decide +kernel, rfl, by decide +kernel, by decide +kernel⟩
-- slots: 0:kind 1:bounds
def spWithin (T : Addr) : Sp := fun vs H Q _ => ∃ (x y : V) (kd b : Bd), vs = [x, y] ∧ BdV H x kd ∧ BdV H y b ∧ b.head = kd.head ∧ TabG H T ∧ ∀ k H', Gr no H H' → (k = true → Sub b kd) → Q (.bl k) H'
theorem c_within (D : DefC K mg "within" 20 ["kind", "bounds"] c) (B : Blt mg) (TB : TabB base mg c T) : Cal P w K mg base CX0 1 "within" ["kind", "bounds"] (spWithin T) := by
  refine mkC D sc_within (fun vs H Q E h => by obtain ⟨_, _, _, _, rfl, _⟩ := h; rfl) ?_
  rintro X Q vs H E ⟨f, A, outer, s, H0, rfl⟩ hr ⟨x, y, kd, b, rfl, hx, hy, hh, hT, q⟩
  have genS : GenS (cxOf CX0 P w K mg base nm_within "within" (defScope (topS 20)) f (.ref c) A outer s H0 E).nox.env { kind := .function, names := [((".0" : Str), .local), ("word", .local), ("kind", .free)], isGenerator := true, isCoroutine := false, more := [] } "word" :=
    ⟨rfl, rfl, by decide, rfl, rfl, fun y hy e => by
      simp only [List.mem_cons, List.not_mem_nil, or_false] at hy
      rcases hy with rfl | rfl | rfl
      · cases e
      · cases e
      · exact ⟨_, rfl⟩⟩
  refine ⟨_, (pss_cons (ps_if (pt_cmpR op_eq (pe_ix ix_tup (pv 0) pe_int (fun _ _ => rfl)) pe_str (nomark _)) (pss_one (ps_ret (pe_and (pe_cmpR op_le (pe_ix ix_tup (pv 0) pe_int (fun _ _ => rfl)) (pe_ix ix_tup (pv 1) pe_int (fun _ _ => rfl)) (nomark _)) (pe_one (pe_cmpR op_le (pe_ix ix_tup (pv 1) pe_int (fun _ _ => rfl)) (pe_ix ix_tup (pv 0) pe_int (fun _ _ => rfl)) (nomark _)))))) pss_nil)
      (pss_cons (ps_if (pt_cmpR op_eq (pe_ix ix_tup (pv 0) pe_int (fun _ _ => rfl)) pe_str (nomark _)) (pss_one (ps_ret (pe_allT (ik := 0) hr (by rfl) B.all_ (by decide +kernel) TB rfl genS (pe_ix ix_tup (pv 1) pe_int (fun _ _ => rfl)) rfl rfl rfl (by rfl)))) pss_nil)
      (pss_cons (ps_if (pt_cmpR op_eq (pe_ix ix_tup (pv 0) pe_int (fun _ _ => rfl)) pe_str (nomark _)) (pss_one (ps_ret (pe_cmpR op_le (pe_ix ix_tup (pv 1) pe_int (fun _ _ => rfl)) (pe_ix ix_tup (pv 0) pe_int (fun _ _ => rfl)) (nomark _)))) pss_nil)
      (pss_one (ps_ret pe_bl))))), ?_⟩
  walk_at "K"
  cases kd with
  | int lo hi =>
    cases b with
    | int lo2 hi2 =>
      obtain ⟨a1, rfl, h1⟩ := hx
      obtain ⟨a2, rfl, h2⟩ := hy
      walk_at "go2"
      refine if_dec (fun c1 => ?_) (fun c1 => ?_)
      · walk_at "go2"
        refine q _ _ (Gr.refl _ _) (fun z => ⟨rfl, ?_⟩)
        have c2 := of_decide_eq_true z
        rintro v ⟨i, rfl, i1, i2⟩
        exact ⟨i, rfl, by omega, by omega⟩
      · exact q _ _ (Gr.refl _ _) (fun z => by cases z)
    | _ => cases head_kn hh
  | flag =>
    cases b with
    | flag =>
      obtain ⟨a1, rfl, h1⟩ := hx
      walk_at "go2"
      exact q _ _ (Gr.refl _ _) (fun z => Sub.refl _)
    | _ => cases head_kn hh
  | text n =>
    cases b with
    | text m =>
      obtain ⟨a1, rfl, h1⟩ := hx
      obtain ⟨a2, rfl, h2⟩ := hy
      walk_at "go2"
      refine q _ _ (Gr.refl _ _) (fun z => ⟨rfl, ?_⟩)
      have c2 := of_decide_eq_true z
      rintro v ⟨s, rfl, i1⟩
      exact ⟨s, rfl, by omega⟩
    | _ => cases head_kn hh
  | word zs =>
    cases b with
    | word ws =>
      obtain ⟨a1, b1, rfl, h1, h3⟩ := hx
      obtain ⟨a2, b2, rfl, h2, h4⟩ := hy
      walk_at "go2"
      unfold tAllT
      walk_at "go2"
      refine ⟨b2, a1, b1, ws, zs, _, rfl, h4, rfl, h1, h3, hT, fun H2 hb => q _ _ (Tabbed.gr hT hb) (fun z => ⟨rfl, ?_⟩)⟩
      rintro v ⟨s, rfl, hs⟩
      exact ⟨s, rfl, of_decide_eq_true (List.all_eq_true.mp z s hs)⟩
    | _ => cases head_kn hh
end
end Snk
set_option Elab.async false
set_option linter.all false
set_option maxRecDepth 100000
set_option maxHeartbeats 4000000
namespace Snk
open PySem PySem.Spec PyProof.Rows L2 GxR GxT
local macro_rules | `(tactic| walk_at "K") => `(tactic| try simp only [ws_K, ws_P, ws_w, cx_K, cx_P, cx_w])
local macro_rules | `(tactic| walk_at "isi") => `(tactic| first
  | with_reducible refine r_isB (.base (.int _)) kk_int_int ?_ | with_reducible refine r_isB (.base (.int _)) kk_int_bool ?_ | with_reducible refine r_isB (.base (.int _)) kk_int_str ?_ | with_reducible refine r_isB (.base (.int _)) kk_int_tuple ?_ | with_reducible refine r_isB (.base (.bl _)) kk_bool_int ?_ | with_reducible refine r_isB (.base (.bl _)) kk_bool_bool ?_ | with_reducible refine r_isB (.base (.bl _)) kk_bool_str ?_ | with_reducible refine r_isB (.base (.bl _)) kk_bool_tuple ?_ | with_reducible refine r_isB (.base (.str _)) kk_str_int ?_ | with_reducible refine r_isB (.base (.str _)) kk_str_bool ?_ | with_reducible refine r_isB (.base (.str _)) kk_str_str ?_ | with_reducible refine r_isB (.base (.str _)) kk_str_tuple ?_ | with_reducible refine r_isB (.base .non) kk_NoneType_int ?_ | with_reducible refine r_isB (.base .non) kk_NoneType_bool ?_ | with_reducible refine r_isB (.base .non) kk_NoneType_str ?_ | with_reducible refine r_isB (.base .non) kk_NoneType_tuple ?_ | with_reducible refine r_isB (.base (.tup (by assumption))) kk_tuple_int ?_ | with_reducible refine r_isB (.base (.tup (by assumption))) kk_tuple_bool ?_ | with_reducible refine r_isB (.base (.tup (by assumption))) kk_tuple_str ?_ | with_reducible refine r_isB (.base (.tup (by assumption))) kk_tuple_tuple ?_)
local macro_rules | `(tactic| tb_rel) => `(tactic| first | assumption | exact upd_same | ((refine look_old ?hl ?hn); (case hn => assumption); (case hl => tb_rel)) | ((refine Gr.tup (by assumption) _ _ ?hl); (case hl => tb_rel)))
local macro_rules | `(tactic| tb_start) => `(tactic| first
  | ((with_reducible refine' r_var ?hvar ?_); (case hvar => exact rfl))
  | with_reducible refine r_c ?_ | with_reducible refine r_op ?_ | with_reducible refine r_un ?_ | with_reducible refine r_chain ?_ | with_reducible refine r_tup ?_ | with_reducible refine r_lst ?_ | with_reducible refine r_cons ?_ | with_reducible refine r_nil ?_ | with_reducible refine r_cb ?_ | with_reducible refine r_call ?_ | with_reducible refine r_bm ?_ | with_reducible refine r_bm0 ?_ | with_reducible refine r_sl ?_ | with_reducible refine r_test ?_ | with_reducible refine r_tb ?_ | with_reducible refine r_tand ?_ | with_reducible refine r_tor ?_ | with_reducible refine r_tnot ?_ | with_reducible refine r_andV ?_ | with_reducible refine r_orV ?_ | with_reducible refine r_notV ?_ | with_reducible refine r_ife ?_ | with_reducible refine s_seq ?_ | with_reducible refine s_nextM ?_ | with_reducible refine s_next ?_ | with_reducible refine s_ret ?_ | with_reducible refine s_if ?_ | with_reducible refine s_asg ?_ | with_reducible refine s_drop ?_ | with_reducible refine s_cont ?_ | with_reducible refine s_break ?_ | with_reducible refine g_name ?_ | with_reducible refine r_I0 ?_ | with_reducible refine r_U ?_ | with_reducible refine k_bl2 ?_ | with_reducible refine r_part ?_ | with_reducible refine r_nopart ?_ | with_reducible refine if_tt ?_ | with_reducible refine if_ff ?_ | with_reducible refine if_nf ?_ | with_reducible refine if_nt ?_
  | ((with_reducible refine' r_eq ?hsc ?_); (case hsc => exact rfl)) | ((with_reducible refine' r_ne ?hsc ?_); (case hsc => exact rfl)) | ((with_reducible refine isi_g ?_); walk_at "isi") | (first | ((with_reducible refine' r_ixT ?hix ?eix ?_); (case hix => tb_rel); (case eix => first | exact at0 | exact at1 | exact at2 | rfl))) | ((with_reducible refine' if_t ?hc ?_); (case hc => decide +kernel)) | ((with_reducible refine' if_f ?hc ?_); (case hc => decide +kernel)))
local macro_rules | `(tactic| walk_at "go") => `(tactic| repeat tb_start)
local macro_rules | `(tactic| walk_at "gr") => `(tactic| first | exact Gr.refl _ _ | assumption | ((refine Gr.trans ?ga (Gr.new ?gn)); (case gn => assumption); (case ga => walk_at "gr")) | ((refine' Gr.trans ?ga ?gb); (case gb => assumption); (case ga => walk_at "gr")))
local macro_rules | `(tactic| walk_at "go2") => `(tactic| repeat (first | tb_start | (((with_reducible refine' And.intro ?hz ?_); (case hz => (refine sz10 ?_; first | decide | (simp; done) | (simp; omega))); intro p hp)) | (first | ((with_reducible refine' r_inT ?hs ?hf ?ha ?_); (case hs => first | assumption | exact SqT.of (by tb_rel)); (case hf => rfl); (case ha => first | rfl | decide +kernel | exact flat_strs)) | ((with_reducible refine' r_niT ?hs ?hf ?ha ?_); (case hs => first | assumption | exact SqT.of (by tb_rel)); (case hf => rfl); (case ha => first | rfl | decide +kernel | exact flat_strs)))))
local macro_rules | `(tactic| tb_start) => `(tactic| with_reducible refine k_int ?_)
section
variable {P : Program} {w : World} {K : PySem.W.Frag} {mg : Str → Option Value} {base : Heap} {C fI : Addr}
/-! ### result -/
abbrev nm_result : List Str := ["head", "instruction", "taken", "at", "bounds"]
theorem sc_result : FnScope nm_result ["head", "instruction", "taken", "at"] (defScope (topS 36)) := ⟨rfl, rfl, rfl, by decide +kernel, rfl, by decide +kernel, by decide +kernel⟩
-- slots: 0:head 1:instruction 2:taken 3:at 4:bounds
/-- an operator: what it takes -/
def Takes1 : Ins → Nat
  | .pair _ => 2
  | .pick => 3
  | _ => 1
def IsOp : Ins → Prop
  | .pair _ => True | .not => True | .pick => True | .div _ => True | .mod _ => True | .cut _ => True
  | _ => False
theorem kind_flag {a : Bd} (h : a.head = "flag") : IsFlag a := isFlag_of (decide_eq_true (congrArg V.str h))
theorem kind_int {a : Bd} (h : a.head = "int") : IsInt a := isInt_of (decide_eq_true (congrArg V.str h))
theorem kind_text {a : Bd} (h : a.head = "text") : IsText a := isText_of (decide_eq_true (congrArg V.str h))
theorem nm_ne : ∀ o : POp, ¬ (Ins.pair o).hd = "pick" := fun o => by cases o <;> decide +kernel
theorem nm_in : ∀ o : POp, inV (.str (Ins.pair o).hd) PAIRSV = true := fun o => by cases o <;> decide +kernel
theorem bds1 {H : Hp} {ts : List V} {bs : List Bd} (h : BdsV H ts bs) (l : bs.length = 1) : ∃ t b, ts = [t] ∧ bs = [b] ∧ BdV H t b := by
  cases h with
  | nil => cases l
  | cons a r => cases r with
    | nil => exact ⟨_, _, rfl, rfl, a⟩
    | cons _ _ => cases l
theorem bds2 {H : Hp} {ts : List V} {bs : List Bd} (h : BdsV H ts bs) (l : bs.length = 2) : ∃ t u b c, ts = [t, u] ∧ bs = [b, c] ∧ BdV H t b ∧ BdV H u c := by
  cases h with
  | nil => cases l
  | cons a r =>
    obtain ⟨t, b, rfl, rfl, k⟩ := bds1 r (by simpa using l)
    exact ⟨_, _, _, _, rfl, rfl, a, k⟩
theorem bds3 {H : Hp} {ts : List V} {bs : List Bd} (h : BdsV H ts bs) (l : bs.length = 3) : ∃ t u v b c d, ts = [t, u, v] ∧ bs = [b, c, d] ∧ BdV H t b ∧ BdV H u c ∧ BdV H v d := by
  cases h with
  | nil => cases l
  | cons a r =>
    obtain ⟨t, u, b, c, rfl, rfl, k1, k2⟩ := bds2 r (by simpa using l)
    exact ⟨_, _, _, _, _, _, rfl, rfl, a, k1, k2⟩
theorem fit1 {b : Bd} {vs : List V} (h : FitS [b] vs) : ∃ v, vs = [v] ∧ Gam b v := by
  cases h with
  | cons a r => cases r; exact ⟨_, rfl, a⟩
theorem fit2 {b c : Bd} {vs : List V} (h : FitS [b, c] vs) : ∃ v u, vs = [v, u] ∧ Gam b v ∧ Gam c u := by
  cases h with
  | cons a r => obtain ⟨u, rfl, k⟩ := fit1 r; exact ⟨_, _, rfl, a, k⟩
theorem fit3 {b c d : Bd} {vs : List V} (h : FitS [b, c, d] vs) : ∃ v u w, vs = [v, u, w] ∧ Gam b v ∧ Gam c u ∧ Gam d w := by
  cases h with
  | cons a r => obtain ⟨u, w, rfl, k, k2⟩ := fit2 r; exact ⟨_, _, _, rfl, a, k, k2⟩
def spResult (C : Addr) : Sp := fun vs H Q E => ∃ (i : Ins) (a t : Addr) (n : Int) (ts : List V) (bs : List Bd), vs = [.str i.hd, .ref a, .ref t, .int n] ∧ IsOp i ∧ InsOk i ∧ H a = some (.tup i.row) ∧ H t = some (.tup ts) ∧ BdsV H ts bs ∧ AllOk bs ∧ bs.length = Takes1 i ∧ EOk C H E ∧
  ∀ H' u c, Gr no H H' → BdV H' u c → BdOk c → (∀ vs, FitS bs vs → ∃ z, OpV i vs z ∧ Gam c z) → Q u H'
set_option maxHeartbeats 16000000 in
theorem c_result (D : DefAt K mg "result" 36 ["head", "instruction", "taken", "at"]) (B : Blt mg) (G : Glo K mg) (T : PySem.BadX.BadTxt P K mg C fI) (c_union : Cal P w K mg base CX0 1 "union" ["a", "b"] spUnion)
    (c_pair_kinds : Cal P w K mg base CX0 1 "pair_kinds" ["head", "a", "b"] spPairK) (c_pair_bounds : Cal P w K mg base CX0 1 "pair_bounds" ["head", "a", "b"] spPairB) (c_single_kind : Cal P w K mg base CX0 1 "single_kind" ["head"] spSK) (c_single_bounds : Cal P w K mg base CX0 1 "single_bounds" ["head", "a", "n"] spSB)
    (c_is_large : Cal P w K mg base CX0 1 "is_large" ["bounds"] spLarge) : Cal P w K mg base (L2.CX P w) 2 "result" ["head", "instruction", "taken", "at"] (spResult C) := by
  obtain ⟨aP, gPAIRS, hP⟩ := G.pairs
  refine mkX D sc_result (fun vs H Q E h => by obtain ⟨_, _, _, _, _, _, rfl, _⟩ := h; rfl) ?_
  rintro X Q vs H E ⟨f, cdv, A, outer, s, H0, rfl⟩ hr tk ⟨i, a, t, n, ts, bs, rfl, hop, hok, ha, ht, hbs, okb, hlen, he, q⟩
  refine ⟨_, (pss_cons (ps_if (pt_cmpR op_eq (pv 0) pe_str (nomark _)) (pss_cons (ps_if (PW.pt (pw_or (pt_cmpR op_ne (pe_ix ix_tup (pe_ix ix_tup (pv 2) pe_int (fun _ _ => rfl)) pe_int (fun _ _ => rfl)) pe_str (nomark _)) (pw_or1 (pt_cmpR op_ne (pe_ix ix_tup (pe_ix ix_tup (pv 2) pe_int (fun _ _ => rfl)) pe_int (fun _ _ => rfl)) (pe_ix ix_tup (pe_ix ix_tup (pv 2) pe_int (fun _ _ => rfl)) pe_int (fun _ _ => rfl)) (nomark _))))) (pss_one (ps_raise rfl tk (pmk_bad T hr (pa_cons (pv 3) (pa_cons pe_str pa_nil))))) pss_nil)
      (pss_one (ps_ret (pc0 c_union hr (by decide) (pa_cons (pe_ix ix_tup (pv 2) pe_int (fun _ _ => rfl)) (pa_cons (pe_ix ix_tup (pv 2) pe_int (fun _ _ => rfl)) pa_nil)))))) pss_nil)
      (pss_cons (ps_if (pt_cmpR op_in_seq (pv 0) (pe_glob (v := .ref aP) rfl gPAIRS rfl) (by rfl)) (pss_cons (ps_if (pt_not (pt_val (pc0 c_pair_kinds hr (by decide) (pa_cons (pv 0) (pa_cons (pe_ix ix_tup (pv 2) pe_int (fun _ _ => rfl)) (pa_cons (pe_ix ix_tup (pv 2) pe_int (fun _ _ => rfl)) pa_nil)))))) (pss_one (ps_raise rfl tk (pmk_bad T hr (pa_cons (pv 3) (pa_cons pe_str pa_nil))))) pss_nil)
      (pss_one (ps_set (i := 4) sc_result.nd rfl (Or.inl rfl) (pc0 c_pair_bounds hr (by decide) (pa_cons (pv 0) (pa_cons (pe_ix ix_tup (pv 2) pe_int (fun _ _ => rfl)) (pa_cons (pe_ix ix_tup (pv 2) pe_int (fun _ _ => rfl)) pa_nil))))))) (pss_cons (ps_if (pt_cmpR op_ne (pe_ix ix_tup (pe_ix ix_tup (pv 2) pe_int (fun _ _ => rfl)) pe_int (fun _ _ => rfl)) (pc0 c_single_kind hr (by decide) (pa_cons (pv 0) pa_nil)) (nomark _)) (pss_one (ps_raise rfl tk (pmk_bad T hr (pa_cons (pv 3) (pa_cons pe_str pa_nil))))) pss_nil)
      (pss_one (ps_set (i := 4) sc_result.nd rfl (Or.inl rfl) (pc0 c_single_bounds hr (by decide) (pa_cons (pv 0) (pa_cons (pe_ix ix_tup (pv 2) pe_int (fun _ _ => rfl)) (pa_cons (pe_ix ix_tup (pv 1) (pe_un un_neg pe_int) (fun _ _ => rfl)) pa_nil))))))))
      (pss_cons (ps_if (pt_val (pc0 c_is_large hr (by decide) (pa_cons (pv 4) pa_nil))) (pss_one (ps_raise rfl tk (pmk_bad T hr (pa_cons (pv 3) (pa_cons pe_str pa_nil))))) pss_nil)
      (pss_one (ps_ret (pv 4)))))), ?_⟩
  walk_at "K"
  cases i with
  | pick =>
    obtain ⟨t0, t1, t2, b0, b1, b2, rfl, rfl, v0, v1, v2⟩ := bds3 hbs hlen
    have ok1 : BdOk b1 := okb _ (by simp)
    have ok2 : BdOk b2 := okb _ (by simp)
    obtain ⟨p0, r0, e0, k0⟩ := v0.hd
    obtain ⟨p1, r1, e1, k1⟩ := v1.hd
    obtain ⟨p2, r2, e2, k2⟩ := v2.hd
    subst e0 e1 e2
    walk_at "go2"
    refine if_sn (fun c0 => ?_) (fun c0 => ?_)
    · (walk_at "go2"; refine r_bad ?_; walk_at "go2"; exact ⟨rfl, fun d => he d _ (by walk_at "gr")⟩)
    · walk_at "go2"
      refine if_sn (fun c3 => ?_) (fun c3 => ?_)
      · (walk_at "go2"; refine r_bad ?_; walk_at "go2"; exact ⟨rfl, fun d => he d _ (by walk_at "gr")⟩)
      · walk_at "go2"
        refine ⟨_, _, b1, b2, rfl, v1, v2, ok1, ok2, c3, fun H' u c g hu hc s1 s2 => ?_⟩
        refine q _ _ c g hu hc ?_
        rintro vs hv
        obtain ⟨x0, x1, x2, rfl, g0, g1, g2⟩ := fit3 hv
        have hf := isFlag_ex (kind_flag c0)
        subst hf
        obtain ⟨bb, rfl⟩ := g0
        refine ⟨_, .pick, ?_⟩
        cases bb with
        | true => exact s1.2 _ g1
        | false => exact s2.2 _ g2
  | pair o =>
    obtain ⟨t0, t1, b0, b1, rfl, rfl, v0, v1⟩ := bds2 hbs hlen
    have ok0 : BdOk b0 := okb _ (by simp)
    have ok1 : BdOk b1 := okb _ (by simp)
    walk_at "go2"
    refine if_s (fun e => absurd e (nm_ne o)) (fun _ => ?_)
    walk_at "go2"
    refine r_inT (hP H) rfl (by decide +kernel) ?_
    walk_at "go2"
    refine if_t (nm_in o) ?_
    walk_at "go2"
    refine ⟨o, _, _, b0, b1, rfl, v0, v1, fun k H1 g1 hk => ?_⟩
    walk_at "go2"
    refine if_nb (fun c0 => ?_) (fun c0 => ?_)
    · (walk_at "go2"; refine r_bad ?_; walk_at "go2"; exact ⟨rfl, fun d => he d _ (by walk_at "gr")⟩)
    · walk_at "go2"
      have ht1 := g1.tup _ _ ht
      walk_at "go2"
      refine ⟨o, _, _, b0, b1, rfl, v0.gr g1, v1.gr g1, ok0, ok1, hk c0, fun H2 u c g2' hu hc snd => ?_⟩
      have g2 : Gr no H H2 := g1.trans g2'
      walk_at "go2"
      refine ⟨_, c, rfl, hu, hc, fun k H3 g3 kk => ?_⟩
      walk_at "go2"
      refine if_b (fun c1 => ?_) (fun c1 => ?_)
      · (walk_at "go2"; refine r_bad ?_; walk_at "go2"; exact ⟨rfl, fun d => he d _ (by walk_at "gr")⟩)
      · walk_at "go2"
        refine q _ _ c (g2.trans g3) (hu.gr g3) (kk c1) ?_
        rintro vs hv
        obtain ⟨x0, x1, rfl, g0, g1⟩ := fit2 hv
        obtain ⟨z, hz, gz⟩ := snd _ _ g0 g1
        exact ⟨z, .pair hz, gz⟩
  | not =>
    rw [show (Ins.not).hd = ("not" : Str) from rfl]
    obtain ⟨t0, b0, rfl, rfl, v0⟩ := bds1 hbs hlen
    have ok0 : BdOk b0 := okb _ (by simp)
    obtain ⟨p0, r0, e0, k0⟩ := v0.hd
    subst e0
    walk_at "go2"
    refine r_inT (hP H) rfl (by decide +kernel) ?_
    walk_at "go2"
    refine ⟨_, rfl, ?_⟩
    walk_at "go2"
    refine if_sn (fun c0 => ?_) (fun c0 => ?_)
    · (walk_at "go2"; refine r_bad ?_; walk_at "go2"; exact ⟨rfl, fun d => he d _ (by walk_at "gr")⟩)
    · have hk1 : Kind1 (.not) b0 := kind_flag c0
      walk_at "go2"
      first | refine r_ixT ha (show atI _ (-1) = some (.str "not") from rfl) ?_ | skip
      walk_at "go2"
      refine ⟨.not, _, _, _, b0, rfl, .not, hok, v0, ok0, hk1, fun H2 u c g2 hu hc snd => ?_⟩
      walk_at "go2"
      refine ⟨_, c, rfl, hu, hc, fun k H3 g3 kk => ?_⟩
      walk_at "go2"
      refine if_b (fun c1 => ?_) (fun c1 => ?_)
      · (walk_at "go2"; refine r_bad ?_; walk_at "go2"; exact ⟨rfl, fun d => he d _ (by walk_at "gr")⟩)
      · walk_at "go2"
        refine q _ _ c (g2.trans g3) (hu.gr g3) (kk c1) ?_
        rintro vs hv
        obtain ⟨v, rfl, gv⟩ := fit1 hv
        exact snd v gv
  | div n' =>
    rw [show (Ins.div n').hd = ("div" : Str) from rfl]
    obtain ⟨t0, b0, rfl, rfl, v0⟩ := bds1 hbs hlen
    have ok0 : BdOk b0 := okb _ (by simp)
    obtain ⟨p0, r0, e0, k0⟩ := v0.hd
    subst e0
    walk_at "go2"
    refine r_inT (hP H) rfl (by decide +kernel) ?_
    walk_at "go2"
    refine ⟨_, rfl, ?_⟩
    walk_at "go2"
    refine if_sn (fun c0 => ?_) (fun c0 => ?_)
    · (walk_at "go2"; refine r_bad ?_; walk_at "go2"; exact ⟨rfl, fun d => he d _ (by walk_at "gr")⟩)
    · have hk1 : Kind1 (.div n') b0 := kind_int c0
      walk_at "go2"
      first | refine r_ixT ha (show atI _ (-1) = some (.int n') from rfl) ?_ | skip
      walk_at "go2"
      refine ⟨.div n', _, _, _, b0, rfl, .div, hok, v0, ok0, hk1, fun H2 u c g2 hu hc snd => ?_⟩
      walk_at "go2"
      refine ⟨_, c, rfl, hu, hc, fun k H3 g3 kk => ?_⟩
      walk_at "go2"
      refine if_b (fun c1 => ?_) (fun c1 => ?_)
      · (walk_at "go2"; refine r_bad ?_; walk_at "go2"; exact ⟨rfl, fun d => he d _ (by walk_at "gr")⟩)
      · walk_at "go2"
        refine q _ _ c (g2.trans g3) (hu.gr g3) (kk c1) ?_
        rintro vs hv
        obtain ⟨v, rfl, gv⟩ := fit1 hv
        exact snd v gv
  | mod n' =>
    rw [show (Ins.mod n').hd = ("mod" : Str) from rfl]
    obtain ⟨t0, b0, rfl, rfl, v0⟩ := bds1 hbs hlen
    have ok0 : BdOk b0 := okb _ (by simp)
    obtain ⟨p0, r0, e0, k0⟩ := v0.hd
    subst e0
    walk_at "go2"
    refine r_inT (hP H) rfl (by decide +kernel) ?_
    walk_at "go2"
    refine ⟨_, rfl, ?_⟩
    walk_at "go2"
    refine if_sn (fun c0 => ?_) (fun c0 => ?_)
    · (walk_at "go2"; refine r_bad ?_; walk_at "go2"; exact ⟨rfl, fun d => he d _ (by walk_at "gr")⟩)
    · have hk1 : Kind1 (.mod n') b0 := kind_int c0
      walk_at "go2"
      first | refine r_ixT ha (show atI _ (-1) = some (.int n') from rfl) ?_ | skip
      walk_at "go2"
      refine ⟨.mod n', _, _, _, b0, rfl, .mod, hok, v0, ok0, hk1, fun H2 u c g2 hu hc snd => ?_⟩
      walk_at "go2"
      refine ⟨_, c, rfl, hu, hc, fun k H3 g3 kk => ?_⟩
      walk_at "go2"
      refine if_b (fun c1 => ?_) (fun c1 => ?_)
      · (walk_at "go2"; refine r_bad ?_; walk_at "go2"; exact ⟨rfl, fun d => he d _ (by walk_at "gr")⟩)
      · walk_at "go2"
        refine q _ _ c (g2.trans g3) (hu.gr g3) (kk c1) ?_
        rintro vs hv
        obtain ⟨v, rfl, gv⟩ := fit1 hv
        exact snd v gv
  | cut n' =>
    rw [show (Ins.cut n').hd = ("cut" : Str) from rfl]
    obtain ⟨t0, b0, rfl, rfl, v0⟩ := bds1 hbs hlen
    have ok0 : BdOk b0 := okb _ (by simp)
    obtain ⟨p0, r0, e0, k0⟩ := v0.hd
    subst e0
    walk_at "go2"
    refine r_inT (hP H) rfl (by decide +kernel) ?_
    walk_at "go2"
    refine ⟨_, rfl, ?_⟩
    walk_at "go2"
    refine if_sn (fun c0 => ?_) (fun c0 => ?_)
    · (walk_at "go2"; refine r_bad ?_; walk_at "go2"; exact ⟨rfl, fun d => he d _ (by walk_at "gr")⟩)
    · have hk1 : Kind1 (.cut n') b0 := kind_text c0
      walk_at "go2"
      first | refine r_ixT ha (show atI _ (-1) = some (.int n') from rfl) ?_ | skip
      walk_at "go2"
      refine ⟨.cut n', _, _, _, b0, rfl, .cut, hok, v0, ok0, hk1, fun H2 u c g2 hu hc snd => ?_⟩
      walk_at "go2"
      refine ⟨_, c, rfl, hu, hc, fun k H3 g3 kk => ?_⟩
      walk_at "go2"
      refine if_b (fun c1 => ?_) (fun c1 => ?_)
      · (walk_at "go2"; refine r_bad ?_; walk_at "go2"; exact ⟨rfl, fun d => he d _ (by walk_at "gr")⟩)
      · walk_at "go2"
        refine q _ _ c (g2.trans g3) (hu.gr g3) (kk c1) ?_
        rintro vs hv
        obtain ⟨v, rfl, gv⟩ := fit1 hv
        exact snd v gv
  | _ => exact hop.elim
end
end Snk
set_option Elab.async false
set_option linter.all false
set_option maxRecDepth 100000
set_option maxHeartbeats 4000000
namespace Snk
open PySem PySem.Spec PyProof.Rows L2 GxR GxT
local macro_rules | `(tactic| walk_at "K") => `(tactic| try simp only [ws_K, ws_P, ws_w, cx_K, cx_P, cx_w])
local macro_rules | `(tactic| walk_at "isi") => `(tactic| first
  | with_reducible refine r_isB (.base (.int _)) kk_int_int ?_ | with_reducible refine r_isB (.base (.int _)) kk_int_bool ?_ | with_reducible refine r_isB (.base (.int _)) kk_int_str ?_ | with_reducible refine r_isB (.base (.int _)) kk_int_tuple ?_ | with_reducible refine r_isB (.base (.bl _)) kk_bool_int ?_ | with_reducible refine r_isB (.base (.bl _)) kk_bool_bool ?_ | with_reducible refine r_isB (.base (.bl _)) kk_bool_str ?_ | with_reducible refine r_isB (.base (.bl _)) kk_bool_tuple ?_ | with_reducible refine r_isB (.base (.str _)) kk_str_int ?_ | with_reducible refine r_isB (.base (.str _)) kk_str_bool ?_ | with_reducible refine r_isB (.base (.str _)) kk_str_str ?_ | with_reducible refine r_isB (.base (.str _)) kk_str_tuple ?_ | with_reducible refine r_isB (.base .non) kk_NoneType_int ?_ | with_reducible refine r_isB (.base .non) kk_NoneType_bool ?_ | with_reducible refine r_isB (.base .non) kk_NoneType_str ?_ | with_reducible refine r_isB (.base .non) kk_NoneType_tuple ?_ | with_reducible refine r_isB (.base (.tup (by assumption))) kk_tuple_int ?_ | with_reducible refine r_isB (.base (.tup (by assumption))) kk_tuple_bool ?_ | with_reducible refine r_isB (.base (.tup (by assumption))) kk_tuple_str ?_ | with_reducible refine r_isB (.base (.tup (by assumption))) kk_tuple_tuple ?_)
local macro_rules | `(tactic| tb_rel) => `(tactic| first | assumption | exact upd_same | ((refine look_old ?hl ?hn); (case hn => assumption); (case hl => tb_rel)) | ((refine Gr.tup (by assumption) _ _ ?hl); (case hl => tb_rel)))
local macro_rules | `(tactic| tb_start) => `(tactic| first
  | ((with_reducible refine' r_var ?hvar ?_); (case hvar => exact rfl))
  | with_reducible refine r_c ?_ | with_reducible refine r_op ?_ | with_reducible refine r_un ?_ | with_reducible refine r_chain ?_ | with_reducible refine r_tup ?_ | with_reducible refine r_lst ?_ | with_reducible refine r_cons ?_ | with_reducible refine r_nil ?_ | with_reducible refine r_cb ?_ | with_reducible refine r_call ?_ | with_reducible refine r_bm ?_ | with_reducible refine r_bm0 ?_ | with_reducible refine r_sl ?_ | with_reducible refine r_test ?_ | with_reducible refine r_tb ?_ | with_reducible refine r_tand ?_ | with_reducible refine r_tor ?_ | with_reducible refine r_tnot ?_ | with_reducible refine r_andV ?_ | with_reducible refine r_orV ?_ | with_reducible refine r_notV ?_ | with_reducible refine r_ife ?_ | with_reducible refine s_seq ?_ | with_reducible refine s_nextM ?_ | with_reducible refine s_next ?_ | with_reducible refine s_ret ?_ | with_reducible refine s_if ?_ | with_reducible refine s_asg ?_ | with_reducible refine s_drop ?_ | with_reducible refine s_cont ?_ | with_reducible refine s_break ?_ | with_reducible refine g_name ?_ | with_reducible refine r_I0 ?_ | with_reducible refine r_U ?_ | with_reducible refine k_bl2 ?_ | with_reducible refine r_part ?_ | with_reducible refine r_nopart ?_ | with_reducible refine if_tt ?_ | with_reducible refine if_ff ?_ | with_reducible refine if_nf ?_ | with_reducible refine if_nt ?_
  | ((with_reducible refine' r_eq ?hsc ?_); (case hsc => exact rfl)) | ((with_reducible refine' r_ne ?hsc ?_); (case hsc => exact rfl)) | ((with_reducible refine isi_g ?_); walk_at "isi") | (first | ((with_reducible refine' r_ixT ?hix ?eix ?_); (case hix => tb_rel); (case eix => first | exact at0 | exact at1 | exact at2 | rfl))) | ((with_reducible refine' if_t ?hc ?_); (case hc => decide +kernel)) | ((with_reducible refine' if_f ?hc ?_); (case hc => decide +kernel)))
local macro_rules | `(tactic| walk_at "go") => `(tactic| repeat tb_start)
local macro_rules | `(tactic| walk_at "gr") => `(tactic| first | exact Gr.refl _ _ | assumption | ((refine Gr.trans ?ga (Gr.new ?gn)); (case gn => assumption); (case ga => walk_at "gr")) | ((refine' Gr.trans ?ga ?gb); (case gb => assumption); (case ga => walk_at "gr")))
local macro_rules | `(tactic| walk_at "go2") => `(tactic| repeat (first | tb_start | (((with_reducible refine' And.intro ?hz ?_); (case hz => (refine sz10 ?_; first | decide | (simp; done) | (simp; omega))); intro p hp)) | (first | ((with_reducible refine' r_inT ?hs ?hf ?ha ?_); (case hs => first | assumption | exact SqT.of (by tb_rel)); (case hf => rfl); (case ha => first | rfl | decide +kernel | exact flat_strs)) | ((with_reducible refine' r_niT ?hs ?hf ?ha ?_); (case hs => first | assumption | exact SqT.of (by tb_rel)); (case hf => rfl); (case ha => first | rfl | decide +kernel | exact flat_strs)))))
local macro_rules | `(tactic| tb_start) => `(tactic| with_reducible refine k_int ?_)
section
variable {P : Program} {w : World} {K : PySem.W.Frag} {mg : Str → Option Value} {base : Heap} {C fI : Addr}
/-! ### slices and sums of tuples -/
theorem sIx_n {n d : Nat} {i : Int} (h : 0 ≤ i) : HT.sIx n d (some i) = min i.toNat n := by
  have e : i = ((i.toNat : Nat) : Int) := by omega
  have k := HT.sIx_nat n d i.toNat
  rw [← e] at k
  exact k
theorem r_slTo {H : Hp} {a : Addr} {xs : List V} {i : Int} {Q : VK} (h : H a = some (.tup xs)) (h0 : 0 ≤ i) (q : ∀ p H', Gr no H H' → H' p = some (.tup (xs.take i.toNat)) → Q (.ref p) H') : rSlA K (.ref a) none (some i) H Q := by
  refine ⟨a, xs, rfl, SqT.of h, fun z => ?_, fun _ p hp => ?_⟩
  · refine q a H (Gr.refl _ _) ?_
    have z2 := z.2
    rw [sIx_n h0] at z2
    rw [List.take_of_length_le (by omega)]
    exact h
  · refine q p _ (Gr.new hp) ?_
    rw [upd_same]
    unfold cutV
    rw [sIx_n h0, HT.sIx_none, List.drop_zero]
    congr 2
    rcases Nat.le_total i.toNat xs.length with z | z
    · rw [Nat.min_eq_left z]; rfl
    · rw [Nat.min_eq_right z, Nat.sub_zero, List.take_of_length_le (Nat.le_refl _), List.take_of_length_le z]
theorem r_slFrom {H : Hp} {a : Addr} {xs : List V} {i : Int} {Q : VK} (h : H a = some (.tup xs)) (h0 : 0 ≤ i) (q : ∀ p H', Gr no H H' → H' p = some (.tup (xs.drop i.toNat)) → Q (.ref p) H') : rSlA K (.ref a) (some i) none H Q := by
  refine ⟨a, xs, rfl, SqT.of h, fun z => ?_, fun _ p hp => ?_⟩
  · refine q a H (Gr.refl _ _) ?_
    have z1 := z.1
    rw [sIx_n h0] at z1
    rcases Nat.eq_zero_or_pos i.toNat with e | e
    · rw [e, List.drop_zero]; exact h
    · have : xs.length = 0 := by omega
      rw [List.eq_nil_of_length_eq_zero this] at h ⊢
      rw [List.drop_nil]
      exact h
  · refine q p _ (Gr.new hp) ?_
    rw [upd_same]
    unfold cutV
    rw [sIx_n h0, HT.sIx_none]
    congr 2
    rcases Nat.le_total i.toNat xs.length with z | z
    · rw [Nat.min_eq_left z, List.take_of_length_le (by rw [List.length_drop]; exact Nat.le_refl _)]
    · rw [Nat.min_eq_right z, List.drop_length, List.take_nil, List.drop_eq_nil_of_le z]
theorem r_catT {H : Hp} {a b : Addr} {xs ys : List V} {Q : VK} (ha : H a = some (.tup xs)) (hb : H b = some (.tup ys)) (hz : xs.length + ys.length ≤ 100000) (q : ∀ p H', Gr no H H' → H' p = some (.tup (xs ++ ys)) → Q (.ref p) H') : rCatA K (.ref a) (.ref b) H Q := by
  refine ⟨a, b, xs, ys, rfl, rfl, SqT.of ha, SqT.of hb, sz10 hz, fun e => ?_, fun _ e => ?_, fun _ _ p hp => ?_⟩
  · refine q b H (Gr.refl _ _) ?_
    rw [e, List.nil_append]; exact hb
  · refine q a H (Gr.refl _ _) ?_
    rw [e, List.append_nil]; exact ha
  · exact q p _ (Gr.new hp) upd_same
theorem fit_app : ∀ {a b : List Bd} {s : List V}, FitS (a ++ b) s → ∃ s1 s2, s = s1 ++ s2 ∧ FitS a s1 ∧ FitS b s2
  | [], b, s, h => ⟨[], s, rfl, .nil, h⟩
  | x :: a, b, _, .cons h t => by
    obtain ⟨s1, s2, e, k1, k2⟩ := fit_app (a := a) (b := b) t
    exact ⟨_ :: s1, s2, by rw [e]; rfl, .cons h k1, k2⟩
theorem fit_get : ∀ {a : List Bd} {s : List V} {i : Nat} {b : Bd}, FitS a s → a[i]? = some b → ∃ v, s[i]? = some v ∧ Gam b v
  | _, _, _, _, .nil, e => by simp at e
  | _, _, 0, _, .cons h _, e => by simp at e; subst e; exact ⟨_, rfl, h⟩
  | _, _, i + 1, b, .cons _ t, e => by
    obtain ⟨v, h1, h2⟩ := fit_get (i := i) (b := b) t (by simpa using e)
    exact ⟨v, by simpa using h1, h2⟩
theorem fit_set : ∀ {a : List Bd} {s : List V} {i : Nat} {b : Bd} {v : V}, FitS a s → a[i]? = some b → Gam b v → FitS a (s.set i v)
  | _, _, _, _, _, .nil, e, _ => by simp at e
  | _, _, 0, _, _, .cons h t, e, g => by simp at e; subst e; exact .cons g t
  | _, _, i + 1, b, v, .cons h t, e, g => .cons h (fit_set (i := i) (b := b) t (by simpa using e) g)
/-! ### after -/
abbrev nm_after : List Str := ["schema", "instruction", "state", "at", "head", "count", "rest", "taken", "kind"]
theorem sc_after : FnScope nm_after ["schema", "instruction", "state", "at"] (defScope (topS 37)) := ⟨rfl, rfl, rfl, by decide +kernel, rfl, by decide +kernel, by decide +kernel⟩
-- slots: 0:schema 1:instruction 2:state 3:at 4:head 5:count 6:rest 7:taken 8:kind
def spAfter (C T : Addr) : Sp := fun vs H Q E => ∃ (sv iv stv : V) (n : Int) (sch : Sch) (i : Ins) (st : List Bd), vs = [sv, iv, stv, .int n] ∧ SchV H sv sch ∧ InsV H iv i ∧ InsOk i ∧ StV H stv st ∧ st.length ≤ 10000 ∧ TabG H T ∧ EOk C H E ∧
  ∀ H' u st', Gr no H H' → StV H' u st' → st'.length ≤ st.length + 1 → AfterOk (kinds sch) i st st' → Q u H'
def needOf : Ins → Nat
  | .push _ => 0 | .word _ => 0 | .load _ => 0 | .jump _ => 0 | .pair _ => 2 | .pick => 3 | _ => 1
theorem need_eq (i : Ins) : needN i.hd = (needOf i : Int) := by
  cases i with
  | pair o => cases o <;> decide +kernel
  | _ => first | decide +kernel | rfl
def IsFld : Ins → Prop
  | .load _ => True | .store _ => True
  | _ => False
theorem nm_fld (o : POp) : inV (.str o.nm) [.str "load", .str "store"] = false := by cases o <;> decide +kernel
theorem nm_no (o : POp) {s : Str} (h : s ∈ (["push", "word", "load", "store", "unless", "jump"] : List Str)) : ¬ o.nm = s := fun e => by
  have k : ((["push", "word", "load", "store", "unless", "jump"] : List Str).all fun s => !decide (o.nm = s)) = true := by cases o <;> decide +kernel
  have := List.all_eq_true.mp k s h
  rw [decide_eq_true e] at this
  cases this
theorem s_par {i j : Nat} {ta : TA} {D : Ends} {σ : L2.St} {H : Hp} (h : ta σ H fun vs H1 => ∃ v w, vs = [v, w] ∧ D.nx ((σ.set i (some v)).set j (some w)) H1) : tPar i j ta D σ H := h
theorem split_st {H : Hp} {xs : List V} {st : List Bd} (k : Nat) (h : BdsV H xs st) (l : k ≤ xs.length) : ∃ x1 x2 b1 b2, xs = x1 ++ x2 ∧ st = b1 ++ b2 ∧ BdsV H x1 b1 ∧ BdsV H x2 b2 ∧ b2.length = k ∧ xs.take (xs.length - k) = x1 ∧ xs.drop (xs.length - k) = x2 := by
  have e := stV_len h
  exact ⟨_, _, _, _, (List.take_append_drop (xs.length - k) xs).symm, (List.take_append_drop (xs.length - k) st).symm, Paired.take _ h, Paired.drop _ h, by rw [List.length_drop]; omega, rfl, rfl⟩
theorem fit0 {b : List Bd} {s : List V} (h : FitS b s) (l : b.length = 0) : s = [] := by
  have := Paired.length h
  exact List.eq_nil_of_length_eq_zero (by omega)
section
variable {sch b1 b2 : List Bd} {c b kd : Bd} {k : Int} {v : V} {i : Ins}
theorem ao_push (l : b2.length = 0) (g : Gam c v) : AfterOk sch (.push v) (b1 ++ b2) (b1 ++ [c]) := fun s r hs hr => by
  obtain ⟨s1, s2, rfl, f1, f2⟩ := fit_app hs
  obtain rfl := fit0 f2 l
  rw [List.append_nil]
  exact ⟨_, _, _, .push, Paired.app f1 (.cons g .nil), hr, .inl ⟨rfl, id⟩⟩
theorem ao_word {w : Str} (l : b2.length = 0) (g : Gam c (.str w)) : AfterOk sch (.word w) (b1 ++ b2) (b1 ++ [c]) := fun s r hs hr => by
  obtain ⟨s1, s2, rfl, f1, f2⟩ := fit_app hs
  obtain rfl := fit0 f2 l
  rw [List.append_nil]
  exact ⟨_, _, _, .word, Paired.app f1 (.cons g .nil), hr, .inl ⟨rfl, id⟩⟩
theorem ao_load (l : b2.length = 0) (h0 : 0 ≤ k) (e : sch[k.toNat]? = some kd) (sub : Sub kd c) : AfterOk sch (.load k) (b1 ++ b2) (b1 ++ [c]) := fun s r hs hr => by
  obtain ⟨s1, s2, rfl, f1, f2⟩ := fit_app hs
  obtain rfl := fit0 f2 l
  rw [List.append_nil]
  obtain ⟨v, hv, gv⟩ := fit_get hr e
  exact ⟨_, _, _, .load h0 hv, Paired.app f1 (.cons (sub.2 _ gv) .nil), hr, .inl ⟨rfl, id⟩⟩
theorem ao_store (h0 : 0 ≤ k) (e : sch[k.toNat]? = some kd) (sub : Sub b kd) : AfterOk sch (.store k) (b1 ++ [b]) b1 := fun s r hs hr => by
  obtain ⟨s1, s2, rfl, f1, f2⟩ := fit_app hs
  obtain ⟨v, rfl, gv⟩ := fit1 f2
  obtain ⟨u, hu, gu⟩ := fit_get hr e
  have hl := (List.getElem?_eq_some_iff.mp hu).1
  exact ⟨_, _, _, .store h0 hl, f1, fit_set hr e (sub.2 _ gv), .inl ⟨rfl, id⟩⟩
theorem ao_op (op : ∀ vs, FitS b2 vs → ∃ z, OpV i vs z ∧ Gam c z) (nj : ¬ IsJump i) : AfterOk sch i (b1 ++ b2) (b1 ++ [c]) := fun s r hs hr => by
  obtain ⟨s1, s2, rfl, f1, f2⟩ := fit_app hs
  obtain ⟨z, hz, gz⟩ := op _ f2
  exact ⟨_, _, _, .op hz, Paired.app f1 (.cons gz .nil), hr, .inl ⟨rfl, nj⟩⟩
theorem ao_jump (l : b2.length = 0) : AfterOk sch (.jump k) (b1 ++ b2) b1 := fun s r hs hr => by
  obtain ⟨s1, s2, rfl, f1, f2⟩ := fit_app hs
  obtain rfl := fit0 f2 l
  rw [List.append_nil]
  exact ⟨_, _, _, .jump, f1, hr, .inr rfl⟩
theorem ao_unless : AfterOk sch (.unless k) (b1 ++ [.flag]) b1 := fun s r hs hr => by
  obtain ⟨s1, s2, rfl, f1, f2⟩ := fit_app hs
  obtain ⟨v, rfl, gv⟩ := fit1 f2
  obtain ⟨bb, rfl⟩ := gv
  refine ⟨_, _, _, .unless, f1, hr, ?_⟩
  cases bb with
  | true => exact .inl ⟨rfl, id⟩
  | false => exact .inr rfl
end
theorem at_k {xs : List V} {k : Int} {x : V} (h0 : 0 ≤ k) (h : xs[k.toNat]? = some x) : atI xs k = some x := by
  have e : k = ((k.toNat : Nat) : Int) := by omega
  rw [e]; exact atI_nat h
set_option maxHeartbeats 16000000 in
theorem c_after (D : DefAt K mg "after" 37 ["schema", "instruction", "state", "at"]) (B : Blt mg) {T : Addr} (Tb : PySem.BadX.BadTxt P K mg C fI) (c_needed : Cal P w K mg base CX0 1 "needed" ["head"] spNeeded)
    (c_constant_bounds : Cal P w K mg base CX0 2 "constant_bounds" ["value"] spCB) (c_literal_bounds : Cal P w K mg base CX0 1 "literal_bounds" ["head", "value"] spLit) (c_kind_bounds : Cal P w K mg base CX0 1 "kind_bounds" ["kind"] spKB)
    (c_within : Cal P w K mg base CX0 1 "within" ["kind", "bounds"] (spWithin T)) (c_result : Cal P w K mg base (L2.CX P w) 2 "result" ["head", "instruction", "taken", "at"] (spResult C)) : Cal P w K mg base (L2.CX P w) 3 "after" ["schema", "instruction", "state", "at"] (spAfter C T) := by
  refine mkX D sc_after (fun vs H Q E h => by obtain ⟨_, _, _, _, _, _, _, rfl, _⟩ := h; rfl) ?_
  rintro X Q vs H E ⟨f, cdv, A, outer, s, H0, rfl⟩ hr tk ⟨sv, iv, stv, n, sch, i, st, rfl, hsch, ⟨ia, rfl, hia⟩, hok, hst, hsl, hT, he, q⟩
  refine ⟨_, (pss_cons (ps_set (i := 4) sc_after.nd rfl (Or.inl rfl) (pe_ix ix_tup (pv 1) pe_int (fun _ _ => rfl)))
      (pss_cons (ps_set (i := 5) sc_after.nd rfl (Or.inl rfl) (pc0 c_needed hr (by decide) (pa_cons (pv 4) pa_nil)))
      (pss_cons (ps_if (pt_cmpR op_lt (pe_callB call_len_seq rfl B.len_ PySem.boot_len (pa_cons (pv 2) pa_nil)) (pv 5) (nomark _)) (pss_one (ps_raise rfl tk (pmk_bad Tb hr (pa_cons (pv 3) (pa_cons pe_str pa_nil))))) pss_nil)
      (pss_cons (ps_if (PW.pt (pw_and (pt_cmpR op_in_seq (pv 4) (pe_tup (pa_cons pe_str (pa_cons pe_str pa_nil))) (by rfl)) (pw_and1 (pt_cmpR op_ge (pe_ix ix_tup (pv 1) pe_int (fun _ _ => rfl)) (pe_callB call_len_seq rfl B.len_ PySem.boot_len (pa_cons (pv 0) pa_nil)) (nomark _))))) (pss_one (ps_raise rfl tk (pmk_bad Tb hr (pa_cons (pv 3) (pa_cons pe_str pa_nil))))) pss_nil)
      (pss_cons (ps_par (i := 6) (j := 7) rfl sc_after.nd rfl rfl (by decide) rfl rfl (pa_cons (pe_slice sl_tupA (pv 2) po_none (po_some (pe_op op_sub (pe_callB call_len_seq rfl B.len_ PySem.boot_len (pa_cons (pv 2) pa_nil)) (pv 5)))) (pa_cons (pe_slice sl_tupA (pv 2) (po_some (pe_op op_sub (pe_callB call_len_seq rfl B.len_ PySem.boot_len (pa_cons (pv 2) pa_nil)) (pv 5))) po_none) pa_nil)) rfl)
      (pss_cons (ps_if (pt_cmpR op_eq (pv 4) pe_str (nomark _)) (pss_one (ps_ret (pe_op op_catA (pv 6) (pe_tup (pa_cons (pc0 c_constant_bounds hr (by decide) (pa_cons (pe_ix ix_tup (pv 1) pe_int (fun _ _ => rfl)) pa_nil)) pa_nil))))) pss_nil)
      (pss_cons (ps_if (pt_cmpR op_eq (pv 4) pe_str (nomark _)) (pss_one (ps_ret (pe_op op_catA (pv 6) (pe_tup (pa_cons (pc0 c_literal_bounds hr (by decide) (pa_cons pe_str (pa_cons (pe_ix ix_tup (pv 1) pe_int (fun _ _ => rfl)) pa_nil))) pa_nil))))) pss_nil)
      (pss_cons (ps_if (pt_cmpR op_eq (pv 4) pe_str (nomark _)) (pss_one (ps_ret (pe_op op_catA (pv 6) (pe_tup (pa_cons (pc0 c_kind_bounds hr (by decide) (pa_cons (pe_ix ix_tup (pe_ix ix_tup (pv 0) (pe_ix ix_tup (pv 1) pe_int (fun _ _ => rfl)) (fun _ _ => rfl)) pe_int (fun _ _ => rfl)) pa_nil)) pa_nil))))) pss_nil)
      (pss_cons (ps_if (pt_cmpR op_eq (pv 4) pe_str (nomark _)) (pss_cons (ps_set (i := 8) sc_after.nd rfl (Or.inl rfl) (pe_ix ix_tup (pe_ix ix_tup (pv 0) (pe_ix ix_tup (pv 1) pe_int (fun _ _ => rfl)) (fun _ _ => rfl)) pe_int (fun _ _ => rfl)))
      (pss_cons (ps_if (pt_cmpR op_ne (pe_ix ix_tup (pe_ix ix_tup (pv 7) pe_int (fun _ _ => rfl)) pe_int (fun _ _ => rfl)) (pe_ix ix_tup (pv 8) pe_int (fun _ _ => rfl)) (nomark _)) (pss_one (ps_raise rfl tk (pmk_bad Tb hr (pa_cons (pv 3) (pa_cons pe_str pa_nil))))) pss_nil)
      (pss_cons (ps_if (pt_not (pt_val (pc0 c_within hr (by decide) (pa_cons (pv 8) (pa_cons (pe_ix ix_tup (pv 7) pe_int (fun _ _ => rfl)) pa_nil))))) (pss_one (ps_raise rfl tk (pmk_bad Tb hr (pa_cons (pv 3) (pa_cons pe_str pa_nil))))) pss_nil)
      (pss_one (ps_ret (pv 6)))))) pss_nil)
      (pss_cons (ps_if (pt_cmpR op_eq (pv 4) pe_str (nomark _)) (pss_cons (ps_if (pt_cmpR op_ne (pe_ix ix_tup (pe_ix ix_tup (pv 7) pe_int (fun _ _ => rfl)) pe_int (fun _ _ => rfl)) pe_str (nomark _)) (pss_one (ps_raise rfl tk (pmk_bad Tb hr (pa_cons (pv 3) (pa_cons pe_str pa_nil))))) pss_nil)
      (pss_one (ps_ret (pv 6)))) pss_nil)
      (pss_cons (ps_if (pt_cmpR op_eq (pv 4) pe_str (nomark _)) (pss_one (ps_ret (pv 6))) pss_nil)
      (pss_one (ps_ret (pe_op op_catA (pv 6) (pe_tup (pa_cons (pcX c_result hr (by decide) tk (pa_cons (pv 4) (pa_cons (pv 1) (pa_cons (pv 7) (pa_cons (pv 3) pa_nil))))) pa_nil)))))))))))))))), ?_⟩
  walk_at "K"
  obtain ⟨sa, fxs, rfl, hsa, hfl, hkd, _, hs8⟩ := hsch
  obtain ⟨a, xs, rfl, ha, hbs, okst⟩ := hst
  have lx := stV_len hbs
  have lf := hfl.length
  cases i with
  | push v =>
    have hir : H ia = some (.tup [.str "push", v]) := hia
    walk_at "go2"
    refine ⟨_, rfl, fun H1 g1 => ?_⟩
    rw [show needN "push" = 0 from by decide +kernel]
    have ha1 := g1.tup _ _ ha
    have hsa1 := g1.tup _ _ hsa
    have hir1 := g1.tup _ _ hir
    walk_at "go2"
    refine ⟨a, xs, rfl, .inr (SqT.of ha1), ?_⟩
    walk_at "go2"
    refine if_dec (fun c1 => ?_) (fun c1 => ?_)
    · (walk_at "go2"; refine r_bad ?_; walk_at "go2"; exact ⟨rfl, fun d => he d _ (by walk_at "gr")⟩)
    · obtain ⟨x1, x2, b1, b2, exs, est, hb1, hb2, hl2, etk, edr⟩ := split_st 0 hbs (by omega)
      walk_at "go2"
      refine s_par ?_
      walk_at "go2"
      refine ⟨a, xs, rfl, .inr (SqT.of (by tb_rel)), ?_⟩
      walk_at "go2"
      refine r_slTo (a := a) (xs := xs) (by tb_rel) (by omega) fun p1 H2 g2 e2 => ?_
      walk_at "go2"
      refine ⟨a, xs, rfl, .inr (SqT.of (by tb_rel)), ?_⟩
      walk_at "go2"
      refine r_slFrom (a := a) (xs := xs) (by tb_rel) (by omega) fun p2 H3 g3 e3 => ?_
      have G3 : Gr no H H3 := by walk_at "gr"
      rw [show ((xs.length : Int) - 0).toNat = xs.length - 0 by omega, etk] at e2
      rw [show ((xs.length : Int) - 0).toNat = xs.length - 0 by omega, edr] at e3
      have e2' := g3.tup _ _ e2
      have hir3 := G3.tup _ _ hir
      have hsa3 := G3.tup _ _ hsa
      have lx1 := stV_len hb1
      have okb1 : AllOk b1 := fun b hb => okst b (by rw [est]; exact List.mem_append_left _ hb)
      have okb2 : AllOk b2 := fun b hb => okst b (by rw [est]; exact List.mem_append_right _ hb)
      have lst : st.length = b1.length + b2.length := by rw [est, List.length_append]
      walk_at "go2"
      refine ⟨_, _, rfl, ?_⟩
      walk_at "go2"
      refine ⟨v, rfl, hok, fun H4 u c g4 hu hc gv => ?_⟩
      walk_at "go2"
      refine r_catT (a := p1) (xs := x1) (by tb_rel) upd_same (by simp; omega) fun p4 H5 g5 e5 => ?_
      have G5 : Gr no H H5 := by walk_at "gr"
      refine q H5 _ (b1 ++ [c]) G5 ⟨p4, _, rfl, e5, Paired.app (BdsV.gr G5 hb1) (.cons (hu.gr (Gr.trans (Gr.new (x := no) (by assumption)) g5)) .nil), okb1.app (.one hc)⟩ (by simp; omega) ?_
      rw [est]
      exact ao_push hl2 gv
  | word z =>
    have hir : H ia = some (.tup [.str "word", .str z]) := hia
    walk_at "go2"
    refine ⟨_, rfl, fun H1 g1 => ?_⟩
    rw [show needN "word" = 0 from by decide +kernel]
    have ha1 := g1.tup _ _ ha
    have hsa1 := g1.tup _ _ hsa
    have hir1 := g1.tup _ _ hir
    walk_at "go2"
    refine ⟨a, xs, rfl, .inr (SqT.of ha1), ?_⟩
    walk_at "go2"
    refine if_dec (fun c1 => ?_) (fun c1 => ?_)
    · (walk_at "go2"; refine r_bad ?_; walk_at "go2"; exact ⟨rfl, fun d => he d _ (by walk_at "gr")⟩)
    · obtain ⟨x1, x2, b1, b2, exs, est, hb1, hb2, hl2, etk, edr⟩ := split_st 0 hbs (by omega)
      walk_at "go2"
      refine s_par ?_
      walk_at "go2"
      refine ⟨a, xs, rfl, .inr (SqT.of (by tb_rel)), ?_⟩
      walk_at "go2"
      refine r_slTo (a := a) (xs := xs) (by tb_rel) (by omega) fun p1 H2 g2 e2 => ?_
      walk_at "go2"
      refine ⟨a, xs, rfl, .inr (SqT.of (by tb_rel)), ?_⟩
      walk_at "go2"
      refine r_slFrom (a := a) (xs := xs) (by tb_rel) (by omega) fun p2 H3 g3 e3 => ?_
      have G3 : Gr no H H3 := by walk_at "gr"
      rw [show ((xs.length : Int) - 0).toNat = xs.length - 0 by omega, etk] at e2
      rw [show ((xs.length : Int) - 0).toNat = xs.length - 0 by omega, edr] at e3
      have e2' := g3.tup _ _ e2
      have hir3 := G3.tup _ _ hir
      have hsa3 := G3.tup _ _ hsa
      have lx1 := stV_len hb1
      have okb1 : AllOk b1 := fun b hb => okst b (by rw [est]; exact List.mem_append_left _ hb)
      have okb2 : AllOk b2 := fun b hb => okst b (by rw [est]; exact List.mem_append_right _ hb)
      have lst : st.length = b1.length + b2.length := by rw [est, List.length_append]
      walk_at "go2"
      refine ⟨_, _, rfl, ?_⟩
      walk_at "go2"
      refine ⟨_, _, rfl, .word hok, fun H4 u c g4 hu hc gv => ?_⟩
      walk_at "go2"
      refine r_catT (a := p1) (xs := x1) (by tb_rel) upd_same (by simp; omega) fun p4 H5 g5 e5 => ?_
      have G5 : Gr no H H5 := by walk_at "gr"
      refine q H5 _ (b1 ++ [c]) G5 ⟨p4, _, rfl, e5, Paired.app (BdsV.gr G5 hb1) (.cons (hu.gr (Gr.trans (Gr.new (x := no) (by assumption)) g5)) .nil), okb1.app (.one hc)⟩ (by simp; omega) ?_
      rw [est]
      exact ao_word hl2 gv
  | load k =>
    have hir : H ia = some (.tup [.str "load", .int k]) := hia
    walk_at "go2"
    refine ⟨_, rfl, fun H1 g1 => ?_⟩
    rw [show needN "load" = 0 from by decide +kernel]
    have ha1 := g1.tup _ _ ha
    have hsa1 := g1.tup _ _ hsa
    have hir1 := g1.tup _ _ hir
    walk_at "go2"
    refine ⟨a, xs, rfl, .inr (SqT.of ha1), ?_⟩
    walk_at "go2"
    refine if_dec (fun c1 => ?_) (fun c1 => ?_)
    · (walk_at "go2"; refine r_bad ?_; walk_at "go2"; exact ⟨rfl, fun d => he d _ (by walk_at "gr")⟩)
    · obtain ⟨x1, x2, b1, b2, exs, est, hb1, hb2, hl2, etk, edr⟩ := split_st 0 hbs (by omega)
      walk_at "go2"
      refine ⟨sa, fxs, rfl, .inr (SqT.of (by tb_rel)), ?_⟩
      walk_at "go2"
      obtain ⟨k0, k1⟩ := (show 0 ≤ k ∧ k ≤ 1000000000 from hok)
      refine if_dec (fun c2 => ?_) (fun c2 => ?_)
      · (walk_at "go2"; refine r_bad ?_; walk_at "go2"; exact ⟨rfl, fun d => he d _ (by walk_at "gr")⟩)
      walk_at "go2"
      have hkl : k.toNat < fxs.length := by omega
      have hfx : fxs[k.toNat]? = some fxs[k.toNat] := List.getElem?_eq_getElem hkl
      obtain ⟨fld, hfld, fa, kv, efa, hfa, hkv⟩ := Paired.getL hfl hfx
      rw [efa] at hfx
      have hkk : (kinds sch)[k.toNat]? = some fld.2 := by unfold kinds; rw [List.getElem?_map, hfld]; rfl
      have okf : KindOk fld.2 := hkd _ (List.mem_of_getElem? hfld)
      refine s_par ?_
      walk_at "go2"
      refine ⟨a, xs, rfl, .inr (SqT.of (by tb_rel)), ?_⟩
      walk_at "go2"
      refine r_slTo (a := a) (xs := xs) (by tb_rel) (by omega) fun p1 H2 g2 e2 => ?_
      walk_at "go2"
      refine ⟨a, xs, rfl, .inr (SqT.of (by tb_rel)), ?_⟩
      walk_at "go2"
      refine r_slFrom (a := a) (xs := xs) (by tb_rel) (by omega) fun p2 H3 g3 e3 => ?_
      have G3 : Gr no H H3 := by walk_at "gr"
      rw [show ((xs.length : Int) - 0).toNat = xs.length - 0 by omega, etk] at e2
      rw [show ((xs.length : Int) - 0).toNat = xs.length - 0 by omega, edr] at e3
      have e2' := g3.tup _ _ e2
      have hir3 := G3.tup _ _ hir
      have hsa3 := G3.tup _ _ hsa
      have lx1 := stV_len hb1
      have okb1 : AllOk b1 := fun b hb => okst b (by rw [est]; exact List.mem_append_left _ hb)
      have okb2 : AllOk b2 := fun b hb => okst b (by rw [est]; exact List.mem_append_right _ hb)
      have lst : st.length = b1.length + b2.length := by rw [est, List.length_append]
      walk_at "go2"
      refine ⟨_, _, rfl, ?_⟩
      walk_at "go2"
      refine r_ixT hsa3 (at_k k0 hfx) ?_
      have hfa3 := G3.tup _ _ hfa
      walk_at "go2"
      refine ⟨_, fld.2, rfl, hkv.gr G3, okf, fun H4 u c g4 hu hc sub => ?_⟩
      walk_at "go2"
      refine r_catT (a := p1) (xs := x1) (by tb_rel) upd_same (by simp; omega) fun p4 H5 g5 e5 => ?_
      have G5 : Gr no H H5 := by walk_at "gr"
      refine q H5 _ (b1 ++ [c]) G5 ⟨p4, _, rfl, e5, Paired.app (BdsV.gr G5 hb1) (.cons (hu.gr (Gr.trans (Gr.new (x := no) (by assumption)) g5)) .nil), okb1.app (.one hc)⟩ (by simp; omega) ?_
      rw [est]
      exact ao_load hl2 k0 hkk sub
  | store k =>
    have hir : H ia = some (.tup [.str "store", .int k]) := hia
    walk_at "go2"
    refine ⟨_, rfl, fun H1 g1 => ?_⟩
    rw [show needN "store" = 1 from by decide +kernel]
    have ha1 := g1.tup _ _ ha
    have hsa1 := g1.tup _ _ hsa
    have hir1 := g1.tup _ _ hir
    walk_at "go2"
    refine ⟨a, xs, rfl, .inr (SqT.of ha1), ?_⟩
    walk_at "go2"
    refine if_dec (fun c1 => ?_) (fun c1 => ?_)
    · (walk_at "go2"; refine r_bad ?_; walk_at "go2"; exact ⟨rfl, fun d => he d _ (by walk_at "gr")⟩)
    · obtain ⟨x1, x2, b1, b2, exs, est, hb1, hb2, hl2, etk, edr⟩ := split_st 1 hbs (by omega)
      walk_at "go2"
      refine ⟨sa, fxs, rfl, .inr (SqT.of (by tb_rel)), ?_⟩
      walk_at "go2"
      obtain ⟨k0, k1⟩ := (show 0 ≤ k ∧ k ≤ 1000000000 from hok)
      refine if_dec (fun c2 => ?_) (fun c2 => ?_)
      · (walk_at "go2"; refine r_bad ?_; walk_at "go2"; exact ⟨rfl, fun d => he d _ (by walk_at "gr")⟩)
      walk_at "go2"
      have hkl : k.toNat < fxs.length := by omega
      have hfx : fxs[k.toNat]? = some fxs[k.toNat] := List.getElem?_eq_getElem hkl
      obtain ⟨fld, hfld, fa, kv, efa, hfa, hkv⟩ := Paired.getL hfl hfx
      rw [efa] at hfx
      have hkk : (kinds sch)[k.toNat]? = some fld.2 := by unfold kinds; rw [List.getElem?_map, hfld]; rfl
      have okf : KindOk fld.2 := hkd _ (List.mem_of_getElem? hfld)
      refine s_par ?_
      walk_at "go2"
      refine ⟨a, xs, rfl, .inr (SqT.of (by tb_rel)), ?_⟩
      walk_at "go2"
      refine r_slTo (a := a) (xs := xs) (by tb_rel) (by omega) fun p1 H2 g2 e2 => ?_
      walk_at "go2"
      refine ⟨a, xs, rfl, .inr (SqT.of (by tb_rel)), ?_⟩
      walk_at "go2"
      refine r_slFrom (a := a) (xs := xs) (by tb_rel) (by omega) fun p2 H3 g3 e3 => ?_
      have G3 : Gr no H H3 := by walk_at "gr"
      rw [show ((xs.length : Int) - 1).toNat = xs.length - 1 by omega, etk] at e2
      rw [show ((xs.length : Int) - 1).toNat = xs.length - 1 by omega, edr] at e3
      have e2' := g3.tup _ _ e2
      have hir3 := G3.tup _ _ hir
      have hsa3 := G3.tup _ _ hsa
      have lx1 := stV_len hb1
      have okb1 : AllOk b1 := fun b hb => okst b (by rw [est]; exact List.mem_append_left _ hb)
      have okb2 : AllOk b2 := fun b hb => okst b (by rw [est]; exact List.mem_append_right _ hb)
      have lst : st.length = b1.length + b2.length := by rw [est, List.length_append]
      walk_at "go2"
      refine ⟨_, _, rfl, ?_⟩
      walk_at "go2"
      refine r_ixT hsa3 (at_k k0 hfx) ?_
      have hfa3 := G3.tup _ _ hfa
      obtain ⟨t0, bb, rfl, rfl, v0⟩ := bds1 hb2 hl2
      have v3 := BdV.gr G3 v0
      have kv3 := BdV.gr G3 hkv
      obtain ⟨p0, r0, e0, k0'⟩ := v3.hd
      obtain ⟨pk, rk, ek, kk'⟩ := kv3.hd
      subst e0 ek
      walk_at "go2"
      refine if_sn (fun c3 => ?_) (fun c3 => ?_)
      · (walk_at "go2"; refine r_bad ?_; walk_at "go2"; exact ⟨rfl, fun d => he d _ (by walk_at "gr")⟩)
      walk_at "go2"
      refine ⟨_, _, fld.2, bb, rfl, kv3, v3, c3, TabG.gr G3 hT, fun kb H4 g4 hs => ?_⟩
      walk_at "go2"
      refine if_nb (fun c4 => ?_) (fun c4 => ?_)
      · (walk_at "go2"; refine r_bad ?_; walk_at "go2"; exact ⟨rfl, fun d => he d _ (by walk_at "gr")⟩)
      walk_at "go2"
      have G4 : Gr no H H4 := by walk_at "gr"
      refine q H4 _ b1 G4 ⟨p1, _, rfl, g4.tup _ _ e2', BdsV.gr G4 hb1, okb1⟩ (by omega) ?_
      rw [est]
      exact ao_store k0 hkk (hs c4)
  | «unless» k =>
    have hir : H ia = some (.tup [.str "unless", .int k]) := hia
    walk_at "go2"
    refine ⟨_, rfl, fun H1 g1 => ?_⟩
    rw [show needN "unless" = 1 from by decide +kernel]
    have ha1 := g1.tup _ _ ha
    have hsa1 := g1.tup _ _ hsa
    have hir1 := g1.tup _ _ hir
    walk_at "go2"
    refine ⟨a, xs, rfl, .inr (SqT.of ha1), ?_⟩
    walk_at "go2"
    refine if_dec (fun c1 => ?_) (fun c1 => ?_)
    · (walk_at "go2"; refine r_bad ?_; walk_at "go2"; exact ⟨rfl, fun d => he d _ (by walk_at "gr")⟩)
    · obtain ⟨x1, x2, b1, b2, exs, est, hb1, hb2, hl2, etk, edr⟩ := split_st 1 hbs (by omega)
      walk_at "go2"
      refine s_par ?_
      walk_at "go2"
      refine ⟨a, xs, rfl, .inr (SqT.of (by tb_rel)), ?_⟩
      walk_at "go2"
      refine r_slTo (a := a) (xs := xs) (by tb_rel) (by omega) fun p1 H2 g2 e2 => ?_
      walk_at "go2"
      refine ⟨a, xs, rfl, .inr (SqT.of (by tb_rel)), ?_⟩
      walk_at "go2"
      refine r_slFrom (a := a) (xs := xs) (by tb_rel) (by omega) fun p2 H3 g3 e3 => ?_
      have G3 : Gr no H H3 := by walk_at "gr"
      rw [show ((xs.length : Int) - 1).toNat = xs.length - 1 by omega, etk] at e2
      rw [show ((xs.length : Int) - 1).toNat = xs.length - 1 by omega, edr] at e3
      have e2' := g3.tup _ _ e2
      have hir3 := G3.tup _ _ hir
      have hsa3 := G3.tup _ _ hsa
      have lx1 := stV_len hb1
      have okb1 : AllOk b1 := fun b hb => okst b (by rw [est]; exact List.mem_append_left _ hb)
      have okb2 : AllOk b2 := fun b hb => okst b (by rw [est]; exact List.mem_append_right _ hb)
      have lst : st.length = b1.length + b2.length := by rw [est, List.length_append]
      walk_at "go2"
      refine ⟨_, _, rfl, ?_⟩
      walk_at "go2"
      obtain ⟨t0, bb, rfl, rfl, v0⟩ := bds1 hb2 hl2
      have v3 := BdV.gr G3 v0
      obtain ⟨p0, r0, e0, k0'⟩ := v3.hd
      subst e0
      walk_at "go2"
      refine if_sn (fun c3 => ?_) (fun c3 => ?_)
      · (walk_at "go2"; refine r_bad ?_; walk_at "go2"; exact ⟨rfl, fun d => he d _ (by walk_at "gr")⟩)
      walk_at "go2"
      refine q H3 _ b1 G3 ⟨p1, _, rfl, e2', BdsV.gr G3 hb1, okb1⟩ (by omega) ?_
      rw [est, isFlag_ex (kind_flag c3)]
      exact ao_unless
  | jump k =>
    have hir : H ia = some (.tup [.str "jump", .int k]) := hia
    walk_at "go2"
    refine ⟨_, rfl, fun H1 g1 => ?_⟩
    rw [show needN "jump" = 0 from by decide +kernel]
    have ha1 := g1.tup _ _ ha
    have hsa1 := g1.tup _ _ hsa
    have hir1 := g1.tup _ _ hir
    walk_at "go2"
    refine ⟨a, xs, rfl, .inr (SqT.of ha1), ?_⟩
    walk_at "go2"
    refine if_dec (fun c1 => ?_) (fun c1 => ?_)
    · (walk_at "go2"; refine r_bad ?_; walk_at "go2"; exact ⟨rfl, fun d => he d _ (by walk_at "gr")⟩)
    · obtain ⟨x1, x2, b1, b2, exs, est, hb1, hb2, hl2, etk, edr⟩ := split_st 0 hbs (by omega)
      walk_at "go2"
      refine s_par ?_
      walk_at "go2"
      refine ⟨a, xs, rfl, .inr (SqT.of (by tb_rel)), ?_⟩
      walk_at "go2"
      refine r_slTo (a := a) (xs := xs) (by tb_rel) (by omega) fun p1 H2 g2 e2 => ?_
      walk_at "go2"
      refine ⟨a, xs, rfl, .inr (SqT.of (by tb_rel)), ?_⟩
      walk_at "go2"
      refine r_slFrom (a := a) (xs := xs) (by tb_rel) (by omega) fun p2 H3 g3 e3 => ?_
      have G3 : Gr no H H3 := by walk_at "gr"
      rw [show ((xs.length : Int) - 0).toNat = xs.length - 0 by omega, etk] at e2
      rw [show ((xs.length : Int) - 0).toNat = xs.length - 0 by omega, edr] at e3
      have e2' := g3.tup _ _ e2
      have hir3 := G3.tup _ _ hir
      have hsa3 := G3.tup _ _ hsa
      have lx1 := stV_len hb1
      have okb1 : AllOk b1 := fun b hb => okst b (by rw [est]; exact List.mem_append_left _ hb)
      have okb2 : AllOk b2 := fun b hb => okst b (by rw [est]; exact List.mem_append_right _ hb)
      have lst : st.length = b1.length + b2.length := by rw [est, List.length_append]
      walk_at "go2"
      refine ⟨_, _, rfl, ?_⟩
      walk_at "go2"
      refine q H3 _ b1 G3 ⟨p1, _, rfl, e2', BdsV.gr G3 hb1, okb1⟩ (by omega) ?_
      rw [est]
      exact ao_jump hl2
  | pick =>
    have hir : H ia = some (.tup [.str "pick"]) := hia
    walk_at "go2"
    refine ⟨_, rfl, fun H1 g1 => ?_⟩
    rw [show needN "pick" = 3 from by decide +kernel]
    have ha1 := g1.tup _ _ ha
    have hsa1 := g1.tup _ _ hsa
    have hir1 := g1.tup _ _ hir
    walk_at "go2"
    refine ⟨a, xs, rfl, .inr (SqT.of ha1), ?_⟩
    walk_at "go2"
    refine if_dec (fun c1 => ?_) (fun c1 => ?_)
    · (walk_at "go2"; refine r_bad ?_; walk_at "go2"; exact ⟨rfl, fun d => he d _ (by walk_at "gr")⟩)
    · obtain ⟨x1, x2, b1, b2, exs, est, hb1, hb2, hl2, etk, edr⟩ := split_st 3 hbs (by omega)
      walk_at "go2"
      refine s_par ?_
      walk_at "go2"
      refine ⟨a, xs, rfl, .inr (SqT.of (by tb_rel)), ?_⟩
      walk_at "go2"
      refine r_slTo (a := a) (xs := xs) (by tb_rel) (by omega) fun p1 H2 g2 e2 => ?_
      walk_at "go2"
      refine ⟨a, xs, rfl, .inr (SqT.of (by tb_rel)), ?_⟩
      walk_at "go2"
      refine r_slFrom (a := a) (xs := xs) (by tb_rel) (by omega) fun p2 H3 g3 e3 => ?_
      have G3 : Gr no H H3 := by walk_at "gr"
      rw [show ((xs.length : Int) - 3).toNat = xs.length - 3 by omega, etk] at e2
      rw [show ((xs.length : Int) - 3).toNat = xs.length - 3 by omega, edr] at e3
      have e2' := g3.tup _ _ e2
      have hir3 := G3.tup _ _ hir
      have hsa3 := G3.tup _ _ hsa
      have lx1 := stV_len hb1
      have okb1 : AllOk b1 := fun b hb => okst b (by rw [est]; exact List.mem_append_left _ hb)
      have okb2 : AllOk b2 := fun b hb => okst b (by rw [est]; exact List.mem_append_right _ hb)
      have lst : st.length = b1.length + b2.length := by rw [est, List.length_append]
      walk_at "go2"
      refine ⟨_, _, rfl, ?_⟩
      walk_at "go2"
      refine ⟨.pick, ia, p2, n, x2, b2, rfl, trivial, hok, hir3, e3, BdsV.gr G3 hb2, okb2, hl2, he.gr G3, fun H4 u c g4 hu hc snd => ?_⟩
      walk_at "go2"
      refine r_catT (a := p1) (xs := x1) (by tb_rel) upd_same (by simp; omega) fun p4 H5 g5 e5 => ?_
      have G5 : Gr no H H5 := by walk_at "gr"
      refine q H5 _ (b1 ++ [c]) G5 ⟨p4, _, rfl, e5, Paired.app (BdsV.gr G5 hb1) (.cons (hu.gr (Gr.trans (Gr.new (x := no) (by assumption)) g5)) .nil), okb1.app (.one hc)⟩ (by simp; omega) ?_
      rw [est]
      exact ao_op snd id
  | not =>
    have hir : H ia = some (.tup [.str "not"]) := hia
    walk_at "go2"
    refine ⟨_, rfl, fun H1 g1 => ?_⟩
    rw [show needN "not" = 1 from by decide +kernel]
    have ha1 := g1.tup _ _ ha
    have hsa1 := g1.tup _ _ hsa
    have hir1 := g1.tup _ _ hir
    walk_at "go2"
    refine ⟨a, xs, rfl, .inr (SqT.of ha1), ?_⟩
    walk_at "go2"
    refine if_dec (fun c1 => ?_) (fun c1 => ?_)
    · (walk_at "go2"; refine r_bad ?_; walk_at "go2"; exact ⟨rfl, fun d => he d _ (by walk_at "gr")⟩)
    · obtain ⟨x1, x2, b1, b2, exs, est, hb1, hb2, hl2, etk, edr⟩ := split_st 1 hbs (by omega)
      walk_at "go2"
      refine s_par ?_
      walk_at "go2"
      refine ⟨a, xs, rfl, .inr (SqT.of (by tb_rel)), ?_⟩
      walk_at "go2"
      refine r_slTo (a := a) (xs := xs) (by tb_rel) (by omega) fun p1 H2 g2 e2 => ?_
      walk_at "go2"
      refine ⟨a, xs, rfl, .inr (SqT.of (by tb_rel)), ?_⟩
      walk_at "go2"
      refine r_slFrom (a := a) (xs := xs) (by tb_rel) (by omega) fun p2 H3 g3 e3 => ?_
      have G3 : Gr no H H3 := by walk_at "gr"
      rw [show ((xs.length : Int) - 1).toNat = xs.length - 1 by omega, etk] at e2
      rw [show ((xs.length : Int) - 1).toNat = xs.length - 1 by omega, edr] at e3
      have e2' := g3.tup _ _ e2
      have hir3 := G3.tup _ _ hir
      have hsa3 := G3.tup _ _ hsa
      have lx1 := stV_len hb1
      have okb1 : AllOk b1 := fun b hb => okst b (by rw [est]; exact List.mem_append_left _ hb)
      have okb2 : AllOk b2 := fun b hb => okst b (by rw [est]; exact List.mem_append_right _ hb)
      have lst : st.length = b1.length + b2.length := by rw [est, List.length_append]
      walk_at "go2"
      refine ⟨_, _, rfl, ?_⟩
      walk_at "go2"
      refine ⟨.not, ia, p2, n, x2, b2, rfl, trivial, hok, hir3, e3, BdsV.gr G3 hb2, okb2, hl2, he.gr G3, fun H4 u c g4 hu hc snd => ?_⟩
      walk_at "go2"
      refine r_catT (a := p1) (xs := x1) (by tb_rel) upd_same (by simp; omega) fun p4 H5 g5 e5 => ?_
      have G5 : Gr no H H5 := by walk_at "gr"
      refine q H5 _ (b1 ++ [c]) G5 ⟨p4, _, rfl, e5, Paired.app (BdsV.gr G5 hb1) (.cons (hu.gr (Gr.trans (Gr.new (x := no) (by assumption)) g5)) .nil), okb1.app (.one hc)⟩ (by simp; omega) ?_
      rw [est]
      exact ao_op snd id
  | div m =>
    have hir : H ia = some (.tup [.str "div", .int m]) := hia
    walk_at "go2"
    refine ⟨_, rfl, fun H1 g1 => ?_⟩
    rw [show needN "div" = 1 from by decide +kernel]
    have ha1 := g1.tup _ _ ha
    have hsa1 := g1.tup _ _ hsa
    have hir1 := g1.tup _ _ hir
    walk_at "go2"
    refine ⟨a, xs, rfl, .inr (SqT.of ha1), ?_⟩
    walk_at "go2"
    refine if_dec (fun c1 => ?_) (fun c1 => ?_)
    · (walk_at "go2"; refine r_bad ?_; walk_at "go2"; exact ⟨rfl, fun d => he d _ (by walk_at "gr")⟩)
    · obtain ⟨x1, x2, b1, b2, exs, est, hb1, hb2, hl2, etk, edr⟩ := split_st 1 hbs (by omega)
      walk_at "go2"
      refine s_par ?_
      walk_at "go2"
      refine ⟨a, xs, rfl, .inr (SqT.of (by tb_rel)), ?_⟩
      walk_at "go2"
      refine r_slTo (a := a) (xs := xs) (by tb_rel) (by omega) fun p1 H2 g2 e2 => ?_
      walk_at "go2"
      refine ⟨a, xs, rfl, .inr (SqT.of (by tb_rel)), ?_⟩
      walk_at "go2"
      refine r_slFrom (a := a) (xs := xs) (by tb_rel) (by omega) fun p2 H3 g3 e3 => ?_
      have G3 : Gr no H H3 := by walk_at "gr"
      rw [show ((xs.length : Int) - 1).toNat = xs.length - 1 by omega, etk] at e2
      rw [show ((xs.length : Int) - 1).toNat = xs.length - 1 by omega, edr] at e3
      have e2' := g3.tup _ _ e2
      have hir3 := G3.tup _ _ hir
      have hsa3 := G3.tup _ _ hsa
      have lx1 := stV_len hb1
      have okb1 : AllOk b1 := fun b hb => okst b (by rw [est]; exact List.mem_append_left _ hb)
      have okb2 : AllOk b2 := fun b hb => okst b (by rw [est]; exact List.mem_append_right _ hb)
      have lst : st.length = b1.length + b2.length := by rw [est, List.length_append]
      walk_at "go2"
      refine ⟨_, _, rfl, ?_⟩
      walk_at "go2"
      refine ⟨.div m, ia, p2, n, x2, b2, rfl, trivial, hok, hir3, e3, BdsV.gr G3 hb2, okb2, hl2, he.gr G3, fun H4 u c g4 hu hc snd => ?_⟩
      walk_at "go2"
      refine r_catT (a := p1) (xs := x1) (by tb_rel) upd_same (by simp; omega) fun p4 H5 g5 e5 => ?_
      have G5 : Gr no H H5 := by walk_at "gr"
      refine q H5 _ (b1 ++ [c]) G5 ⟨p4, _, rfl, e5, Paired.app (BdsV.gr G5 hb1) (.cons (hu.gr (Gr.trans (Gr.new (x := no) (by assumption)) g5)) .nil), okb1.app (.one hc)⟩ (by simp; omega) ?_
      rw [est]
      exact ao_op snd id
  | mod m =>
    have hir : H ia = some (.tup [.str "mod", .int m]) := hia
    walk_at "go2"
    refine ⟨_, rfl, fun H1 g1 => ?_⟩
    rw [show needN "mod" = 1 from by decide +kernel]
    have ha1 := g1.tup _ _ ha
    have hsa1 := g1.tup _ _ hsa
    have hir1 := g1.tup _ _ hir
    walk_at "go2"
    refine ⟨a, xs, rfl, .inr (SqT.of ha1), ?_⟩
    walk_at "go2"
    refine if_dec (fun c1 => ?_) (fun c1 => ?_)
    · (walk_at "go2"; refine r_bad ?_; walk_at "go2"; exact ⟨rfl, fun d => he d _ (by walk_at "gr")⟩)
    · obtain ⟨x1, x2, b1, b2, exs, est, hb1, hb2, hl2, etk, edr⟩ := split_st 1 hbs (by omega)
      walk_at "go2"
      refine s_par ?_
      walk_at "go2"
      refine ⟨a, xs, rfl, .inr (SqT.of (by tb_rel)), ?_⟩
      walk_at "go2"
      refine r_slTo (a := a) (xs := xs) (by tb_rel) (by omega) fun p1 H2 g2 e2 => ?_
      walk_at "go2"
      refine ⟨a, xs, rfl, .inr (SqT.of (by tb_rel)), ?_⟩
      walk_at "go2"
      refine r_slFrom (a := a) (xs := xs) (by tb_rel) (by omega) fun p2 H3 g3 e3 => ?_
      have G3 : Gr no H H3 := by walk_at "gr"
      rw [show ((xs.length : Int) - 1).toNat = xs.length - 1 by omega, etk] at e2
      rw [show ((xs.length : Int) - 1).toNat = xs.length - 1 by omega, edr] at e3
      have e2' := g3.tup _ _ e2
      have hir3 := G3.tup _ _ hir
      have hsa3 := G3.tup _ _ hsa
      have lx1 := stV_len hb1
      have okb1 : AllOk b1 := fun b hb => okst b (by rw [est]; exact List.mem_append_left _ hb)
      have okb2 : AllOk b2 := fun b hb => okst b (by rw [est]; exact List.mem_append_right _ hb)
      have lst : st.length = b1.length + b2.length := by rw [est, List.length_append]
      walk_at "go2"
      refine ⟨_, _, rfl, ?_⟩
      walk_at "go2"
      refine ⟨.mod m, ia, p2, n, x2, b2, rfl, trivial, hok, hir3, e3, BdsV.gr G3 hb2, okb2, hl2, he.gr G3, fun H4 u c g4 hu hc snd => ?_⟩
      walk_at "go2"
      refine r_catT (a := p1) (xs := x1) (by tb_rel) upd_same (by simp; omega) fun p4 H5 g5 e5 => ?_
      have G5 : Gr no H H5 := by walk_at "gr"
      refine q H5 _ (b1 ++ [c]) G5 ⟨p4, _, rfl, e5, Paired.app (BdsV.gr G5 hb1) (.cons (hu.gr (Gr.trans (Gr.new (x := no) (by assumption)) g5)) .nil), okb1.app (.one hc)⟩ (by simp; omega) ?_
      rw [est]
      exact ao_op snd id
  | cut m =>
    have hir : H ia = some (.tup [.str "cut", .int m]) := hia
    walk_at "go2"
    refine ⟨_, rfl, fun H1 g1 => ?_⟩
    rw [show needN "cut" = 1 from by decide +kernel]
    have ha1 := g1.tup _ _ ha
    have hsa1 := g1.tup _ _ hsa
    have hir1 := g1.tup _ _ hir
    walk_at "go2"
    refine ⟨a, xs, rfl, .inr (SqT.of ha1), ?_⟩
    walk_at "go2"
    refine if_dec (fun c1 => ?_) (fun c1 => ?_)
    · (walk_at "go2"; refine r_bad ?_; walk_at "go2"; exact ⟨rfl, fun d => he d _ (by walk_at "gr")⟩)
    · obtain ⟨x1, x2, b1, b2, exs, est, hb1, hb2, hl2, etk, edr⟩ := split_st 1 hbs (by omega)
      walk_at "go2"
      refine s_par ?_
      walk_at "go2"
      refine ⟨a, xs, rfl, .inr (SqT.of (by tb_rel)), ?_⟩
      walk_at "go2"
      refine r_slTo (a := a) (xs := xs) (by tb_rel) (by omega) fun p1 H2 g2 e2 => ?_
      walk_at "go2"
      refine ⟨a, xs, rfl, .inr (SqT.of (by tb_rel)), ?_⟩
      walk_at "go2"
      refine r_slFrom (a := a) (xs := xs) (by tb_rel) (by omega) fun p2 H3 g3 e3 => ?_
      have G3 : Gr no H H3 := by walk_at "gr"
      rw [show ((xs.length : Int) - 1).toNat = xs.length - 1 by omega, etk] at e2
      rw [show ((xs.length : Int) - 1).toNat = xs.length - 1 by omega, edr] at e3
      have e2' := g3.tup _ _ e2
      have hir3 := G3.tup _ _ hir
      have hsa3 := G3.tup _ _ hsa
      have lx1 := stV_len hb1
      have okb1 : AllOk b1 := fun b hb => okst b (by rw [est]; exact List.mem_append_left _ hb)
      have okb2 : AllOk b2 := fun b hb => okst b (by rw [est]; exact List.mem_append_right _ hb)
      have lst : st.length = b1.length + b2.length := by rw [est, List.length_append]
      walk_at "go2"
      refine ⟨_, _, rfl, ?_⟩
      walk_at "go2"
      refine ⟨.cut m, ia, p2, n, x2, b2, rfl, trivial, hok, hir3, e3, BdsV.gr G3 hb2, okb2, hl2, he.gr G3, fun H4 u c g4 hu hc snd => ?_⟩
      walk_at "go2"
      refine r_catT (a := p1) (xs := x1) (by tb_rel) upd_same (by simp; omega) fun p4 H5 g5 e5 => ?_
      have G5 : Gr no H H5 := by walk_at "gr"
      refine q H5 _ (b1 ++ [c]) G5 ⟨p4, _, rfl, e5, Paired.app (BdsV.gr G5 hb1) (.cons (hu.gr (Gr.trans (Gr.new (x := no) (by assumption)) g5)) .nil), okb1.app (.one hc)⟩ (by simp; omega) ?_
      rw [est]
      exact ao_op snd id
  | pair o =>
    have hir : H ia = some (.tup [.str o.nm]) := hia
    walk_at "go2"
    refine ⟨_, rfl, fun H1 g1 => ?_⟩
    rw [show needN o.nm = 2 from need_eq (.pair o)]
    have ha1 := g1.tup _ _ ha
    have hsa1 := g1.tup _ _ hsa
    have hir1 := g1.tup _ _ hir
    walk_at "go2"
    refine ⟨a, xs, rfl, .inr (SqT.of ha1), ?_⟩
    walk_at "go2"
    refine if_dec (fun c1 => ?_) (fun c1 => ?_)
    · (walk_at "go2"; refine r_bad ?_; walk_at "go2"; exact ⟨rfl, fun d => he d _ (by walk_at "gr")⟩)
    · obtain ⟨x1, x2, b1, b2, exs, est, hb1, hb2, hl2, etk, edr⟩ := split_st 2 hbs (by omega)
      walk_at "go2"
      refine if_f (nm_fld o) ?_
      walk_at "go2"
      refine s_par ?_
      walk_at "go2"
      refine ⟨a, xs, rfl, .inr (SqT.of (by tb_rel)), ?_⟩
      walk_at "go2"
      refine r_slTo (a := a) (xs := xs) (by tb_rel) (by omega) fun p1 H2 g2 e2 => ?_
      walk_at "go2"
      refine ⟨a, xs, rfl, .inr (SqT.of (by tb_rel)), ?_⟩
      walk_at "go2"
      refine r_slFrom (a := a) (xs := xs) (by tb_rel) (by omega) fun p2 H3 g3 e3 => ?_
      have G3 : Gr no H H3 := by walk_at "gr"
      rw [show ((xs.length : Int) - 2).toNat = xs.length - 2 by omega, etk] at e2
      rw [show ((xs.length : Int) - 2).toNat = xs.length - 2 by omega, edr] at e3
      have e2' := g3.tup _ _ e2
      have hir3 := G3.tup _ _ hir
      have hsa3 := G3.tup _ _ hsa
      have lx1 := stV_len hb1
      have okb1 : AllOk b1 := fun b hb => okst b (by rw [est]; exact List.mem_append_left _ hb)
      have okb2 : AllOk b2 := fun b hb => okst b (by rw [est]; exact List.mem_append_right _ hb)
      have lst : st.length = b1.length + b2.length := by rw [est, List.length_append]
      walk_at "go2"
      refine ⟨_, _, rfl, ?_⟩
      walk_at "go2"
      refine if_s (fun e => absurd e (nm_no o (s := "push") (by simp))) (fun _ => ?_)
      walk_at "go2"
      refine if_s (fun e => absurd e (nm_no o (s := "word") (by simp))) (fun _ => ?_)
      walk_at "go2"
      refine if_s (fun e => absurd e (nm_no o (s := "load") (by simp))) (fun _ => ?_)
      walk_at "go2"
      refine if_s (fun e => absurd e (nm_no o (s := "store") (by simp))) (fun _ => ?_)
      walk_at "go2"
      refine if_s (fun e => absurd e (nm_no o (s := "unless") (by simp))) (fun _ => ?_)
      walk_at "go2"
      refine if_s (fun e => absurd e (nm_no o (s := "jump") (by simp))) (fun _ => ?_)
      walk_at "go2"
      refine ⟨.pair o, ia, p2, n, x2, b2, rfl, trivial, hok, hir3, e3, BdsV.gr G3 hb2, okb2, hl2, he.gr G3, fun H4 u c g4 hu hc snd => ?_⟩
      walk_at "go2"
      refine r_catT (a := p1) (xs := x1) (by tb_rel) upd_same (by simp; omega) fun p4 H5 g5 e5 => ?_
      have G5 : Gr no H H5 := by walk_at "gr"
      refine q H5 _ (b1 ++ [c]) G5 ⟨p4, _, rfl, e5, Paired.app (BdsV.gr G5 hb1) (.cons (hu.gr (Gr.trans (Gr.new (x := no) (by assumption)) g5)) .nil), okb1.app (.one hc)⟩ (by simp; omega) ?_
      rw [est]
      exact ao_op snd id
end
end Snk
set_option Elab.async false
set_option linter.all false
set_option maxRecDepth 100000
set_option maxHeartbeats 4000000
namespace Snk
open PySem PySem.Spec PyProof.Rows L2 GxR GxT
local macro_rules | `(tactic| walk_at "K") => `(tactic| try simp only [ws_K, ws_P, ws_w, cx_K, cx_P, cx_w])
local macro_rules | `(tactic| walk_at "isi") => `(tactic| first
  | with_reducible refine r_isB (.base (.int _)) kk_int_int ?_ | with_reducible refine r_isB (.base (.int _)) kk_int_bool ?_ | with_reducible refine r_isB (.base (.int _)) kk_int_str ?_ | with_reducible refine r_isB (.base (.int _)) kk_int_tuple ?_ | with_reducible refine r_isB (.base (.bl _)) kk_bool_int ?_ | with_reducible refine r_isB (.base (.bl _)) kk_bool_bool ?_ | with_reducible refine r_isB (.base (.bl _)) kk_bool_str ?_ | with_reducible refine r_isB (.base (.bl _)) kk_bool_tuple ?_ | with_reducible refine r_isB (.base (.str _)) kk_str_int ?_ | with_reducible refine r_isB (.base (.str _)) kk_str_bool ?_ | with_reducible refine r_isB (.base (.str _)) kk_str_str ?_ | with_reducible refine r_isB (.base (.str _)) kk_str_tuple ?_ | with_reducible refine r_isB (.base .non) kk_NoneType_int ?_ | with_reducible refine r_isB (.base .non) kk_NoneType_bool ?_ | with_reducible refine r_isB (.base .non) kk_NoneType_str ?_ | with_reducible refine r_isB (.base .non) kk_NoneType_tuple ?_ | with_reducible refine r_isB (.base (.tup (by assumption))) kk_tuple_int ?_ | with_reducible refine r_isB (.base (.tup (by assumption))) kk_tuple_bool ?_ | with_reducible refine r_isB (.base (.tup (by assumption))) kk_tuple_str ?_ | with_reducible refine r_isB (.base (.tup (by assumption))) kk_tuple_tuple ?_)
local macro_rules | `(tactic| tb_rel) => `(tactic| first | assumption | exact upd_same | ((refine look_old ?hl ?hn); (case hn => assumption); (case hl => tb_rel)) | ((refine Gr.tup (by assumption) _ _ ?hl); (case hl => tb_rel)))
local macro_rules | `(tactic| tb_start) => `(tactic| first
  | ((with_reducible refine' r_var ?hvar ?_); (case hvar => exact rfl))
  | with_reducible refine r_c ?_ | with_reducible refine r_op ?_ | with_reducible refine r_un ?_ | with_reducible refine r_chain ?_ | with_reducible refine r_tup ?_ | with_reducible refine r_lst ?_ | with_reducible refine r_cons ?_ | with_reducible refine r_nil ?_ | with_reducible refine r_cb ?_ | with_reducible refine r_call ?_ | with_reducible refine r_bm ?_ | with_reducible refine r_bm0 ?_ | with_reducible refine r_sl ?_ | with_reducible refine r_test ?_ | with_reducible refine r_tb ?_ | with_reducible refine r_tand ?_ | with_reducible refine r_tor ?_ | with_reducible refine r_tnot ?_ | with_reducible refine r_andV ?_ | with_reducible refine r_orV ?_ | with_reducible refine r_notV ?_ | with_reducible refine r_ife ?_ | with_reducible refine s_seq ?_ | with_reducible refine s_nextM ?_ | with_reducible refine s_next ?_ | with_reducible refine s_ret ?_ | with_reducible refine s_if ?_ | with_reducible refine s_asg ?_ | with_reducible refine s_drop ?_ | with_reducible refine s_cont ?_ | with_reducible refine s_break ?_ | with_reducible refine g_name ?_ | with_reducible refine r_I0 ?_ | with_reducible refine r_U ?_ | with_reducible refine k_bl2 ?_ | with_reducible refine r_part ?_ | with_reducible refine r_nopart ?_ | with_reducible refine if_tt ?_ | with_reducible refine if_ff ?_ | with_reducible refine if_nf ?_ | with_reducible refine if_nt ?_
  | ((with_reducible refine' r_eq ?hsc ?_); (case hsc => exact rfl)) | ((with_reducible refine' r_ne ?hsc ?_); (case hsc => exact rfl)) | ((with_reducible refine isi_g ?_); walk_at "isi") | (first | ((with_reducible refine' r_ixT ?hix ?eix ?_); (case hix => tb_rel); (case eix => first | exact at0 | exact at1 | exact at2 | rfl))) | ((with_reducible refine' if_t ?hc ?_); (case hc => decide +kernel)) | ((with_reducible refine' if_f ?hc ?_); (case hc => decide +kernel)))
local macro_rules | `(tactic| walk_at "go") => `(tactic| repeat tb_start)
local macro_rules | `(tactic| walk_at "gr") => `(tactic| first | exact Gr.refl _ _ | assumption | ((refine Gr.trans ?ga (Gr.new ?gn)); (case gn => assumption); (case ga => walk_at "gr")) | ((refine' Gr.trans ?ga ?gb); (case gb => assumption); (case ga => walk_at "gr")))
local macro_rules | `(tactic| walk_at "go2") => `(tactic| repeat (first | tb_start | (((with_reducible refine' And.intro ?hz ?_); (case hz => (refine sz10 ?_; first | decide | (simp; done) | (simp; omega))); intro p hp)) | (first | ((with_reducible refine' r_inT ?hs ?hf ?ha ?_); (case hs => first | assumption | exact SqT.of (by tb_rel)); (case hf => rfl); (case ha => first | rfl | decide +kernel | exact flat_strs)) | ((with_reducible refine' r_niT ?hs ?hf ?ha ?_); (case hs => first | assumption | exact SqT.of (by tb_rel)); (case hf => rfl); (case ha => first | rfl | decide +kernel | exact flat_strs)))))
local macro_rules | `(tactic| tb_start) => `(tactic| with_reducible refine k_int ?_)
/-! ### the judge's table of states by place -/
structure Inc (H0 H : Hp) (d : Addr) (kvs : List (L2.Key × V)) (I : Nat → List (List Bd)) : Prop where
  d0 : H0 d = none
  here : H d = some (.dK kvs)
  none_ : ∀ n : Nat, valV kvs (.inl (n : Int)) = none → I n = []
  some_ : ∀ (n : Nat) (v : V), valV kvs (.inl (n : Int)) = some v → ∃ l xs, v = .ref l ∧ H0 l = none ∧ H l = some (.lst xs) ∧ Paired (StV H) xs (I n) ∧ I n ≠ []
  inj : ∀ (n m : Nat) (l : Addr), valV kvs (.inl (n : Int)) = some (.ref l) → valV kvs (.inl (m : Int)) = some (.ref l) → n = m
def addI (I : Nat → List (List Bd)) (n : Nat) (st : List Bd) : Nat → List (List Bd) := fun m => if m = n then I m ++ [st] else I m
section
variable {H0 H H' : Hp} {d : Addr} {kvs : List (L2.Key × V)} {I : Nat → List (List Bd)} {n : Nat} {l p : Addr} {xs : List V} {u : V} {st : List Bd}
theorem Inc.gr (h : Inc H0 H d kvs I) (g : Gr no H H') : Inc H0 H' d kvs I :=
  ⟨h.d0, g.dK h.here id, h.none_, fun n v e => by
    obtain ⟨l, xs, e1, e2, e3, e4, e5⟩ := h.some_ n v e
    exact ⟨l, xs, e1, e2, g.lst e3 id, sts_gr g e4, e5⟩, h.inj⟩
theorem addI_same : addI I n st n = I n ++ [st] := if_pos rfl
theorem addI_ne {m : Nat} (h : m ≠ n) : addI I n st m = I m := if_neg h
theorem addI_mem {m : Nat} {s : List Bd} (h : s ∈ addI I n st m) : s ∈ I m ∨ (m = n ∧ s = st) := by
  by_cases e : m = n
  · rw [e, addI_same] at h
    rcases List.mem_append.mp h with h | h
    · exact .inl (by rw [e]; exact h)
    · exact .inr ⟨e, List.mem_singleton.mp h⟩
  · rw [addI_ne e] at h
    exact .inl h
theorem addI_sub {m : Nat} {s : List Bd} (h : s ∈ I m) : s ∈ addI I n st m := by
  by_cases e : m = n
  · rw [e, addI_same]
    rw [e] at h
    exact List.mem_append_left _ h
  · rw [addI_ne e]; exact h
theorem key_ne {m n : Nat} (z : ¬ m = n) : ¬ (Sum.inl (m : Int) : L2.Key) = Sum.inl (n : Int) := fun y => z (by have := Sum.inl.inj y; omega)
theorem Inc.app (h : Inc H0 H d kvs I) (e : valV kvs (.inl (n : Int)) = some (.ref l)) (hl : H l = some (.lst xs)) (hu : StV H u st) : Inc H0 (upd H l (.lst (xs ++ [u]))) d kvs (addI I n st) := by
  have gp : Gr (fun b => b = l) H (upd H l (.lst (xs ++ [u]))) := Gr.put hl rfl
  have hdl : d ≠ l := fun z => by have := h.here; rw [z, hl] at this; cases this
  refine ⟨h.d0, by rw [upd_ne hdl]; exact h.here, fun m hm => ?_, fun m v hv => ?_, h.inj⟩
  · have hne : m ≠ n := fun z => by rw [z, e] at hm; cases hm
    rw [addI_ne hne]
    exact h.none_ m hm
  · obtain ⟨l', xs', e1, e2, e3, e4, e5⟩ := h.some_ m v hv
    by_cases z : m = n
    · rw [z, e] at hv
      have e6 := Option.some.inj hv
      rw [← e6] at e1
      cases e1
      rw [hl] at e3
      cases e3
      rw [z, addI_same]
      rw [z] at e4
      refine ⟨l, xs ++ [u], e6.symm, e2, upd_same, Paired.app (sts_gr gp e4) (.cons (hu.gr gp) .nil), by simp⟩
    · rw [addI_ne z]
      have hne : l' ≠ l := fun y => by
        rw [e1, y] at hv
        exact z (h.inj m n l hv e)
      exact ⟨l', xs', e1, e2, by rw [upd_ne hne]; exact e3, sts_gr gp e4, e5⟩
theorem Gr.putD {x : Addr → Prop} {o : HO} (h : H l = some (.dK kvs)) (hx : x l) : Gr x H (upd H l o) :=
  ⟨fun b u e n _ => by rw [upd_ne (fun z => n (by rw [z]; exact hx))]; exact e, fun b q e => by rw [upd_ne (ne_of e h (fun z => by cases z))]; exact e,
    fun b ps e => ⟨ps, by rw [upd_ne (ne_of e h (fun z => by cases z))]; exact e, id⟩, fun b e => free_of_upd e⟩
/-- the heap behind d.setdefault(n, []).append(u), the key being new -/
abbrev newH (H : Hp) (p d : Addr) (kvs : List (L2.Key × V)) (n : Nat) (u : V) : Hp := upd (upd (upd H p (.lst [])) d (.dK (putK kvs (.inl (n : Int)) (.ref p)))) p (.lst ([] ++ [u]))
theorem Inc.new (h : Inc H0 H d kvs I) (e : valV kvs (.inl (n : Int)) = none) (hp : H p = none) (hp0 : H0 p = none) (hu : StV H u st) : Inc H0 (newH H p d kvs n u) d (putK kvs (.inl (n : Int)) (.ref p)) (addI I n st) := by
  have hdp : d ≠ p := fun z => by have := h.here; rw [z, hp] at this; cases this
  have g1 : Gr (fun _ => True) H (upd H p (.lst [])) := Gr.new hp
  have hd1 : (upd H p (.lst [])) d = some (.dK kvs) := by rw [upd_ne hdp]; exact h.here
  have g2 : Gr (fun _ => True) (upd H p (.lst [])) (upd (upd H p (.lst [])) d (.dK (putK kvs (.inl (n : Int)) (.ref p)))) := Gr.putD hd1 trivial
  have hp2 : (upd (upd H p (.lst [])) d (.dK (putK kvs (.inl (n : Int)) (.ref p)))) p = some (.lst []) := by rw [upd_ne (Ne.symm hdp), upd_same]
  have g3 : Gr (fun _ => True) (upd (upd H p (.lst [])) d (.dK (putK kvs (.inl (n : Int)) (.ref p)))) (newH H p d kvs n u) := Gr.put hp2 trivial
  have g : Gr (fun _ => True) H (newH H p d kvs n u) := (g1.trans g2).trans g3
  have look : ∀ {b : Addr} {o : HO}, H b = some o → b ≠ d → (newH H p d kvs n u) b = some o := fun {b o} eb nd => by
    have nb : b ≠ p := fun z => by rw [z, hp] at eb; cases eb
    unfold newH
    rw [upd_ne nb, upd_ne nd, upd_ne nb]; exact eb
  refine ⟨h.d0, by unfold newH; rw [upd_ne hdp, upd_same], fun m hm => ?_, fun m v hv => ?_, fun m m' l' h1 h2 => ?_⟩
  · rw [valV_put] at hm
    by_cases z : m = n
    · rw [z, if_pos rfl] at hm; cases hm
    · rw [if_neg (key_ne z)] at hm
      rw [addI_ne z]
      exact h.none_ m hm
  · rw [valV_put] at hv
    by_cases z : m = n
    · rw [z, if_pos rfl] at hv
      rw [z, addI_same, h.none_ n e]
      exact ⟨p, [] ++ [u], (Option.some.inj hv).symm, hp0, upd_same, .cons (hu.gr g) .nil, by simp⟩
    · rw [if_neg (key_ne z)] at hv
      rw [addI_ne z]
      obtain ⟨l', xs', e1, e2, e3, e4, e5⟩ := h.some_ m v hv
      exact ⟨l', xs', e1, e2, look e3 (fun y => by rw [y, h.here] at e3; cases e3), sts_gr g e4, e5⟩
  · rw [valV_put] at h1 h2
    have old : ∀ m : Nat, valV kvs (.inl (m : Int)) ≠ some (.ref p) := fun m hm => by
      obtain ⟨l2, xs', e1, e2, e3, e4, e5⟩ := h.some_ m _ hm
      cases e1
      rw [hp] at e3; cases e3
    by_cases z : m = n
    · by_cases z' : m' = n
      · rw [z, z']
      · rw [z, if_pos rfl] at h1
        rw [if_neg (key_ne z')] at h2
        cases h1
        exact absurd h2 (old m')
    · by_cases z' : m' = n
      · rw [z', if_pos rfl] at h2
        rw [if_neg (key_ne z)] at h1
        cases h2
        exact absurd h1 (old m)
      · rw [if_neg (key_ne z)] at h1
        rw [if_neg (key_ne z')] at h2
        exact h.inj m m' l' h1 h2
end
end Snk
set_option Elab.async false
set_option linter.all false
set_option maxRecDepth 100000
set_option maxHeartbeats 4000000
namespace Snk
open PySem PySem.Spec PyProof.Rows L2 GxR GxT
local macro_rules | `(tactic| walk_at "K") => `(tactic| try simp only [ws_K, ws_P, ws_w, cx_K, cx_P, cx_w])
local macro_rules | `(tactic| walk_at "isi") => `(tactic| first
  | with_reducible refine r_isB (.base (.int _)) kk_int_int ?_ | with_reducible refine r_isB (.base (.int _)) kk_int_bool ?_ | with_reducible refine r_isB (.base (.int _)) kk_int_str ?_ | with_reducible refine r_isB (.base (.int _)) kk_int_tuple ?_ | with_reducible refine r_isB (.base (.bl _)) kk_bool_int ?_ | with_reducible refine r_isB (.base (.bl _)) kk_bool_bool ?_ | with_reducible refine r_isB (.base (.bl _)) kk_bool_str ?_ | with_reducible refine r_isB (.base (.bl _)) kk_bool_tuple ?_ | with_reducible refine r_isB (.base (.str _)) kk_str_int ?_ | with_reducible refine r_isB (.base (.str _)) kk_str_bool ?_ | with_reducible refine r_isB (.base (.str _)) kk_str_str ?_ | with_reducible refine r_isB (.base (.str _)) kk_str_tuple ?_ | with_reducible refine r_isB (.base .non) kk_NoneType_int ?_ | with_reducible refine r_isB (.base .non) kk_NoneType_bool ?_ | with_reducible refine r_isB (.base .non) kk_NoneType_str ?_ | with_reducible refine r_isB (.base .non) kk_NoneType_tuple ?_ | with_reducible refine r_isB (.base (.tup (by assumption))) kk_tuple_int ?_ | with_reducible refine r_isB (.base (.tup (by assumption))) kk_tuple_bool ?_ | with_reducible refine r_isB (.base (.tup (by assumption))) kk_tuple_str ?_ | with_reducible refine r_isB (.base (.tup (by assumption))) kk_tuple_tuple ?_)
local macro_rules | `(tactic| tb_rel) => `(tactic| first | assumption | exact upd_same | ((refine look_old ?hl ?hn); (case hn => assumption); (case hl => tb_rel)) | ((refine Gr.tup (by assumption) _ _ ?hl); (case hl => tb_rel)))
local macro_rules | `(tactic| tb_start) => `(tactic| first
  | ((with_reducible refine' r_var ?hvar ?_); (case hvar => exact rfl))
  | with_reducible refine r_c ?_ | with_reducible refine r_op ?_ | with_reducible refine r_un ?_ | with_reducible refine r_chain ?_ | with_reducible refine r_tup ?_ | with_reducible refine r_lst ?_ | with_reducible refine r_cons ?_ | with_reducible refine r_nil ?_ | with_reducible refine r_cb ?_ | with_reducible refine r_call ?_ | with_reducible refine r_bm ?_ | with_reducible refine r_bm0 ?_ | with_reducible refine r_sl ?_ | with_reducible refine r_test ?_ | with_reducible refine r_tb ?_ | with_reducible refine r_tand ?_ | with_reducible refine r_tor ?_ | with_reducible refine r_tnot ?_ | with_reducible refine r_andV ?_ | with_reducible refine r_orV ?_ | with_reducible refine r_notV ?_ | with_reducible refine r_ife ?_ | with_reducible refine s_seq ?_ | with_reducible refine s_nextM ?_ | with_reducible refine s_next ?_ | with_reducible refine s_ret ?_ | with_reducible refine s_if ?_ | with_reducible refine s_asg ?_ | with_reducible refine s_drop ?_ | with_reducible refine s_cont ?_ | with_reducible refine s_break ?_ | with_reducible refine g_name ?_ | with_reducible refine r_I0 ?_ | with_reducible refine r_U ?_ | with_reducible refine k_bl2 ?_ | with_reducible refine r_part ?_ | with_reducible refine r_nopart ?_ | with_reducible refine if_tt ?_ | with_reducible refine if_ff ?_ | with_reducible refine if_nf ?_ | with_reducible refine if_nt ?_
  | ((with_reducible refine' r_eq ?hsc ?_); (case hsc => exact rfl)) | ((with_reducible refine' r_ne ?hsc ?_); (case hsc => exact rfl)) | ((with_reducible refine isi_g ?_); walk_at "isi") | (first | ((with_reducible refine' r_ixT ?hix ?eix ?_); (case hix => tb_rel); (case eix => first | exact at0 | exact at1 | exact at2 | rfl))) | ((with_reducible refine' if_t ?hc ?_); (case hc => decide +kernel)) | ((with_reducible refine' if_f ?hc ?_); (case hc => decide +kernel)))
local macro_rules | `(tactic| walk_at "go") => `(tactic| repeat tb_start)
local macro_rules | `(tactic| walk_at "gr") => `(tactic| first | exact Gr.refl _ _ | assumption | ((refine Gr.trans ?ga (Gr.new ?gn)); (case gn => assumption); (case ga => walk_at "gr")) | ((refine' Gr.trans ?ga ?gb); (case gb => assumption); (case ga => walk_at "gr")))
local macro_rules | `(tactic| walk_at "go2") => `(tactic| repeat (first | tb_start | (((with_reducible refine' And.intro ?hz ?_); (case hz => (refine sz10 ?_; first | decide | (simp; done) | (simp; omega))); intro p hp)) | (first | ((with_reducible refine' r_inT ?hs ?hf ?ha ?_); (case hs => first | assumption | exact SqT.of (by tb_rel)); (case hf => rfl); (case ha => first | rfl | decide +kernel | exact flat_strs)) | ((with_reducible refine' r_niT ?hs ?hf ?ha ?_); (case hs => first | assumption | exact SqT.of (by tb_rel)); (case hf => rfl); (case ha => first | rfl | decide +kernel | exact flat_strs)))))
local macro_rules | `(tactic| tb_start) => `(tactic| with_reducible refine k_int ?_)
/-! ### the judge's turns, with no program in sight -/
structure JI (sch : List Bd) (cs : List Ins) (i : Nat) (kvs : List (L2.Key × V)) (I : Nat → List (List Bd)) : Prop where
  h0 : [] ∈ I 0
  hist : ∀ (j : Nat) (x : Ins), j < i → cs[j]? = some x → I j ≠ [] → ∃ st st', (∀ s ∈ I j, SubS s st) ∧ AfterOk sch x st st' ∧ (∀ k, skipOf x = some k → 0 ≤ k ∧ st' ∈ I (j + 1 + k.toNat)) ∧ (¬ IsJump x → st' ∈ I (j + 1))
  ahead : ∃ n, i ≤ n ∧ n ≤ cs.length ∧ I n ≠ []
  szl : ∀ n, (I n).length ≤ 2 * i + 1
  szs : ∀ n s, s ∈ I n → s.length ≤ i
  szk : kvs.length ≤ 2 * i + 1
section
variable {sch : List Bd} {cs : List Ins} {i : Nat} {kvs kvs2 : List (L2.Key × V)} {I I2 : Nat → List (List Bd)} {x : Ins} {st st' : List Bd}
theorem JI.skip (h : JI sch cs i kvs I) (e : I i = []) : JI sch cs (i + 1) kvs I := by
  refine ⟨h.h0, fun j x hj hx hn => ?_, ?_, fun n => by have := h.szl n; omega, fun n s hs => by have := h.szs n s hs; omega, by have := h.szk; omega⟩
  · rcases Nat.lt_or_ge j i with z | z
    · exact h.hist j x z hx hn
    · have : j = i := by omega
      rw [this] at hn
      exact absurd e hn
  · obtain ⟨n, n1, n2, n3⟩ := h.ahead
    refine ⟨n, ?_, n2, n3⟩
    rcases Nat.lt_or_ge i n with z | z
    · exact z
    · have : n = i := by omega
      rw [this] at n3
      exact absurd e n3
theorem JI.turn (h : JI sch cs i kvs I) (hx : cs[i]? = some x) (hsub : ∀ s ∈ I i, SubS s st) (ha : AfterOk sch x st st') (hl : st'.length ≤ i + 1) (m1 : ∀ m s, s ∈ I m → s ∈ I2 m) (m2 : ∀ m, m ≤ i → I2 m = I m) (m3 : ∀ m s, s ∈ I2 m → s ∈ I m ∨ s = st') (m4 : ∀ m, (I2 m).length ≤ (I m).length + 2)
    (hk : ∀ k, skipOf x = some k → 0 ≤ k ∧ st' ∈ I2 (i + 1 + k.toNat)) (hj : ¬ IsJump x → st' ∈ I2 (i + 1)) (ah : ∃ n, i + 1 ≤ n ∧ n ≤ cs.length ∧ I2 n ≠ []) (kl : kvs2.length ≤ kvs.length + 2) : JI sch cs (i + 1) kvs2 I2 := by
  refine ⟨m1 _ _ h.h0, fun j y hjl hy hn => ?_, ah, fun n => by have := h.szl n; have := m4 n; omega, fun n s hs => ?_, by have := h.szk; omega⟩
  · rcases Nat.lt_or_ge j i with z | z
    · rw [m2 j (by omega)] at hn
      obtain ⟨a, b, p1, p2, p3, p4⟩ := h.hist j y z hy hn
      rw [m2 j (by omega)]
      exact ⟨a, b, p1, p2, fun k e => ⟨(p3 k e).1, m1 _ _ (p3 k e).2⟩, fun e => m1 _ _ (p4 e)⟩
    · have : j = i := by omega
      subst this
      rw [hx] at hy
      cases hy
      rw [m2 j (Nat.le_refl _)]
      exact ⟨st, st', hsub, ha, hk, hj⟩
  · rcases m3 n s hs with z | z
    · have := h.szs n s z; omega
    · rw [z]; exact hl
theorem JI.fin (h : JI sch cs cs.length kvs I) (ok : ∀ x ∈ cs, InsOk x) : Accepted sch cs ∧ I cs.length ≠ [] := by
  refine ⟨⟨ok, I, h.h0, fun j x hx hn => h.hist j x (List.getElem?_eq_some_iff.mp hx).1 hx hn⟩, ?_⟩
  obtain ⟨n, n1, n2, n3⟩ := h.ahead
  have : n = cs.length := by omega
  rw [this] at n3
  exact n3
theorem addI_len {n m : Nat} : (addI I n st m).length ≤ (I m).length + 1 := by
  by_cases e : m = n
  · rw [e, addI_same, List.length_append]; exact Nat.le_refl _
  · rw [addI_ne e]; omega
end
theorem kind3 : ∀ x : Ins, (∃ k, x = .jump k) ∨ (∃ k, x = .unless k) ∨ (inV (.str x.hd) [.str "jump", .str "unless"] = false ∧ ¬ x.hd = "jump" ∧ skipOf x = none ∧ ¬ IsJump x)
  | .jump k => .inl ⟨k, rfl⟩
  | .unless k => .inr (.inl ⟨k, rfl⟩)
  | .pair o => .inr (.inr ⟨by cases o <;> decide +kernel, by cases o <;> decide +kernel, rfl, id⟩)
  | .push _ => .inr (.inr ⟨show inV (.str "push") _ = false by decide +kernel, show ¬ ("push" : Str) = "jump" by decide +kernel, rfl, id⟩)
  | .word _ => .inr (.inr ⟨show inV (.str "word") _ = false by decide +kernel, show ¬ ("word" : Str) = "jump" by decide +kernel, rfl, id⟩)
  | .load _ => .inr (.inr ⟨show inV (.str "load") _ = false by decide +kernel, show ¬ ("load" : Str) = "jump" by decide +kernel, rfl, id⟩)
  | .store _ => .inr (.inr ⟨show inV (.str "store") _ = false by decide +kernel, show ¬ ("store" : Str) = "jump" by decide +kernel, rfl, id⟩)
  | .not => .inr (.inr ⟨by decide +kernel, by decide +kernel, rfl, id⟩)
  | .pick => .inr (.inr ⟨by decide +kernel, by decide +kernel, rfl, id⟩)
  | .div _ => .inr (.inr ⟨show inV (.str "div") _ = false by decide +kernel, show ¬ ("div" : Str) = "jump" by decide +kernel, rfl, id⟩)
  | .mod _ => .inr (.inr ⟨show inV (.str "mod") _ = false by decide +kernel, show ¬ ("mod" : Str) = "jump" by decide +kernel, rfl, id⟩)
  | .cut _ => .inr (.inr ⟨show inV (.str "cut") _ = false by decide +kernel, show ¬ ("cut" : Str) = "jump" by decide +kernel, rfl, id⟩)
/-! ### readings of the table -/
theorem r_dni {ty td : TE} {σ : L2.St} {H : Hp} {Q : VK} (h : ty σ H fun y H1 => td σ H1 fun x H2 => ∃ a o, x = .ref a ∧ DGet H2 a y o ∧ Q (.bl (!o.isSome)) H2) : tDNotIn ty td σ H Q := h
theorem r_dget {ty td : TE} {σ : L2.St} {H : Hp} {Q : VK} (h : td σ H fun x H1 => ty σ H1 fun y H2 => ∃ a v, x = .ref a ∧ DGet H2 a y (some v) ∧ Q v H2) : tDGet td ty σ H Q := h
theorem r_pairs {tk tv : TE} {r : List (TE × TE)} {σ : L2.St} {H : Hp} {Q : List (V × V) → Hp → Prop} (h : tk σ H fun x H1 => tv σ H1 fun y H2 => tPairs r σ H2 fun ps H3 => Q ((x, y) :: ps) H3) : tPairs ((tk, tv) :: r) σ H Q := h
theorem r_pairs0 {σ : L2.St} {H : Hp} {Q : List (V × V) → Hp → Prop} (h : Q [] H) : tPairs [] σ H Q := h
theorem add_step {K : PySem.W.Frag} {tk : TE} {D : Ends} {σ : L2.St} {H0 H : Hp} {d : Addr} {kvs : List (L2.Key × V)} {I : Nat → List (List Bd)} {n : Nat} {u : V} {st : List Bd} (hd : σ[2]? = some (some (.ref d))) (hs : σ[4]? = some (some u)) (h : Inc H0 H d kvs I) (g : Gr no H0 H) (hu : StV H u st)
    (hk : ∀ Q : VK, Q (.int (n : Int)) H → tk σ H Q) (hl : kvs.length ≤ 5000) (hn : (I n).length ≤ 5000) (q : ∀ kvs' H', Inc H0 H' d kvs' (addI I n st) → Gr no H0 H' → kvs'.length ≤ kvs.length + 1 → (∀ b xs, H b = some (.tup xs) → H' b = some (.tup xs)) → (∃ y, Gr y H H') → D.nx σ H') :
    tDSetd (tVar 2) tk (tLst tNil) σ H (fun x H1 => tyV K "list" x H1 ∧ tCons (tVar 4) tNil σ H1 fun xs H2 => rAppend x xs H2 (fun _ H3 => D.nx σ H3)) := by
  have main : ∀ v H2 kvs', (∃ l xs, v = .ref l ∧ H2 l = some (.lst xs) ∧ xs.length ≤ 5000 ∧ Inc H0 (upd H2 l (.lst (xs ++ [u]))) d kvs' (addI I n st) ∧ Gr no H0 (upd H2 l (.lst (xs ++ [u]))) ∧ kvs'.length ≤ kvs.length + 1 ∧ (∀ b ys, H b = some (.tup ys) → (upd H2 l (.lst (xs ++ [u]))) b = some (.tup ys)) ∧ ∃ y, Gr y H (upd H2 l (.lst (xs ++ [u])))) →
      (tyV K "list" v H2 ∧ tCons (tVar 4) tNil σ H2 fun xs H2 => rAppend v xs H2 fun _ H1 => D.nx σ H1) := by
    rintro v H2 kvs' ⟨l, xs, rfl, hl2, hx, i2, g2, k2, t2, gy⟩
    refine ⟨.inl ⟨rfl, xs, SqL.of hl2⟩, ?_⟩
    refine ⟨u, hs, ?_⟩
    exact ⟨l, xs, u, rfl, rfl, hl2, Nat.lt_of_le_of_lt hx (by decide), q _ _ i2 g2 k2 t2 gy⟩
  refine ⟨_, hd, d, rfl, .inl ⟨kvs, .inl h.here⟩, ?_⟩
  refine hk _ ?_
  refine ⟨Nat.zero_le _, fun p hp => ?_⟩
  have hdp : d ≠ p := fun z => by have := h.here; rw [z, hp] at this; cases this
  refine ⟨kvs, .inl (n : Int), by rw [upd_ne hdp]; exact h.here, rfl, Nat.lt_of_le_of_lt hl (by decide), fun v hv => ?_, fun hv => ?_⟩
  · obtain ⟨l, xs, rfl, e2, e3, e4, e5⟩ := h.some_ n v hv
    have gp : Gr no H (upd H p (.lst [])) := Gr.new hp
    have h' := h.gr gp
    have e3' := gp.lst e3 id
    refine main _ _ kvs ⟨l, xs, rfl, e3', by rw [Paired.length e4]; exact hn, h'.app hv e3' (hu.gr gp), Gr.own (g.trans gp) e2, by omega, fun b ys hb => ?_, _, Gr.trans (Gr.new (x := fun b => b = l) hp) (Gr.put e3' rfl)⟩
    exact (Gr.put (x := fun b => b = l) (o := .lst (xs ++ [u])) e3' rfl).tup _ _ (gp.tup _ _ hb)
  · have hp0 := g.free _ hp
    have hi := h.new hv hp hp0 hu
    have hd1 : (upd H p (.lst [])) d = some (.dK kvs) := by rw [upd_ne hdp]; exact h.here
    have hp2 : (upd (upd H p (.lst [])) d (.dK (putK kvs (.inl (n : Int)) (.ref p)))) p = some (.lst []) := by rw [upd_ne (Ne.symm hdp), upd_same]
    have gy : Gr (fun _ => True) H (newH H p d kvs n u) := ((Gr.new hp).trans (Gr.putD hd1 trivial)).trans (Gr.put hp2 trivial)
    exact main _ _ _ ⟨p, [], rfl, hp2, by simp, hi, Gr.own (Gr.own (g.trans (Gr.new hp)) h.d0) hp0, length_putK _ _ _, gy.tup, _, gy⟩
section
variable {P : Program} {w : World} {K : PySem.W.Frag} {mg : Str → Option Value} {base : Heap} {C fI : Addr}
abbrev nm_judge : List Str := ["schema", "code", "incoming", "at", "state", "instruction"]
theorem sc_judge : FnScope nm_judge ["schema", "code"] (defScope (topS 38)) := ⟨rfl, rfl, rfl, by decide +kernel, rfl, by decide +kernel, by decide +kernel⟩
-- slots: 0:schema 1:code 2:incoming 3:at 4:state 5:instruction
def spJudge (C T : Addr) : Sp := fun vs H Q E => ∃ (sv : V) (a : Addr) (sch : Sch) (xs : List V), vs = [sv, .ref a] ∧ SchV H sv sch ∧ H a = some (.tup xs) ∧ xs.length ≤ 100000 ∧ (∀ x ∈ xs, ItemV H x) ∧ TabG H T ∧ EOk C H E ∧
  ∀ H' cs, Gr no H H' → Paired (InsV H') xs cs → cs.length ≤ 400 → Accepted (kinds sch) cs → Q .non H'
set_option maxHeartbeats 16000000 in
theorem c_judge (D : DefAt K mg "judge" 38 ["schema", "code"]) (B : Blt mg) {T : Addr} (Tb : PySem.BadX.BadTxt P K mg C fI) (c_check_form : Cal P w K mg base (L2.CX P w) 4 "check_form" ["code"] (spForm C))
    (c_merged : Cal P w K mg base (L2.CX P w) 2 "merged" ["states", "at"] (spMerged K C)) (c_after : Cal P w K mg base (L2.CX P w) 3 "after" ["schema", "instruction", "state", "at"] (spAfter C T)) : Cal P w K mg base (L2.CX P w) 5 "judge" ["schema", "code"] (spJudge C T) := by
  refine mkX D sc_judge (fun vs H Q E h => by obtain ⟨_, _, _, _, rfl, _⟩ := h; rfl) ?_
  rintro X Q vs H E ⟨f, cdv, A, outer, s, H0, rfl⟩ hr tk ⟨sv, a, sch, xs, rfl, hsch, ha, hlen, hit, hT, he, q⟩
  have hu := hu_of hr
  refine ⟨_, (pss_cons (ps_expr (pcX c_check_form hr (by decide) tk (pa_cons (pv 1) pa_nil)))
      (pss_cons (ps_set (i := 2) sc_judge.nd rfl (Or.inl rfl) (pe_disp (pps_cons pe_int (pe_lst (pa_cons (pe_tup pa_nil) pa_nil)) pps_nil) (by rfl) (by rfl) (fun z => by cases z) (by decide)))
      (pss_cons (ps_for (passes_of rfl) rfl (pi_range1 rfl B.range_ (pa_cons (pe_callB call_len_seq rfl B.len_ PySem.boot_len (pa_cons (pv 1) pa_nil)) pa_nil)) (pg_name (i := 3) sc_judge.nd rfl (Or.inl rfl)) (pss_cons (ps_if (pt_cmp (pc_dnotin hu (pv 3) (pv 2))) (pss_one ps_continue) pss_nil)
      (pss_cons (ps_set (i := 4) sc_judge.nd rfl (Or.inl rfl) (pcX c_merged hr (by decide) tk (pa_cons (pe_dget hu (pv 2) (pv 3) (fun _ _ => rfl)) (pa_cons (pv 3) pa_nil))))
      (pss_cons (ps_set (i := 5) sc_judge.nd rfl (Or.inl rfl) (pe_ix ix_tup (pv 1) (pv 3) (fun _ _ => rfl)))
      (pss_cons (ps_set (i := 4) sc_judge.nd rfl (Or.inl rfl) (pcX c_after hr (by decide) tk (pa_cons (pv 0) (pa_cons (pv 5) (pa_cons (pv 4) (pa_cons (pv 3) pa_nil))))))
      (pss_cons (ps_if (pt_cmpR op_in_seq (pe_ix ix_tup (pv 5) pe_int (fun _ _ => rfl)) (pe_tup (pa_cons pe_str (pa_cons pe_str pa_nil))) (by rfl)) (pss_one (ps_expr (pe_bm PySem.F.plainAttrs_list PySem.F.slot_list_append PySem.F.type_list_append mt_append (pe_dsetd (pv 2) (pe_op op_add (pe_op op_add (pv 3) pe_int) (pe_ix ix_tup (pv 5) pe_int (fun _ _ => rfl))) (pe_lst pa_nil) ⟨by rfl, by rfl, by rfl, by rfl⟩) (pa_cons (pv 4) pa_nil)))) pss_nil)
      (pss_one (ps_if (pt_cmpR op_ne (pe_ix ix_tup (pv 5) pe_int (fun _ _ => rfl)) pe_str (nomark _)) (pss_one (ps_expr (pe_bm PySem.F.plainAttrs_list PySem.F.slot_list_append PySem.F.type_list_append mt_append (pe_dsetd (pv 2) (pe_op op_add (pv 3) pe_int) (pe_lst pa_nil) ⟨by rfl, by rfl, by rfl, by rfl⟩) (pa_cons (pv 4) pa_nil)))) pss_nil))))))))
      (pss_one (ps_if (pt_cmpR op_gt (pe_callB call_len_seq rfl B.len_ PySem.boot_len (pa_cons (pcX c_merged hr (by decide) tk (pa_cons (pe_dget hu (pv 2) (pe_callB call_len_seq rfl B.len_ PySem.boot_len (pa_cons (pv 1) pa_nil)) (fun _ _ => rfl)) (pa_cons (pe_callB call_len_seq rfl B.len_ PySem.boot_len (pa_cons (pv 1) pa_nil)) pa_nil))) pa_nil)) pe_int (nomark _)) (pss_one (ps_raise rfl tk (pmk_bad Tb hr (pa_cons (pe_callB call_len_seq rfl B.len_ PySem.boot_len (pa_cons (pv 1) pa_nil)) (pa_cons pe_str pa_nil))))) pss_nil))))), ?_⟩
  walk_at "K"
  walk_at "go2"
  refine ⟨a, xs, rfl, ha, hlen, hit, he, fun H1 cs g1 form => ?_⟩
  walk_at "go2"
  intro d hd
  refine r_pairs ?_
  walk_at "go2"
  rename_i t ht l hl
  refine r_pairs0 ?_
  refine ⟨by tb_rel, [(.inl 0, .ref l)], rfl, by simp, ?_⟩
  have hl1 : H1 l = none := free_of_upd (free_of_upd hl)
  have gs : Gr no H1 (upd (upd (upd (upd H1 d (.dK [])) t (.tup [])) l (.lst [.ref t])) d (.dK (mergeK [] [(.inl 0, .ref l)]))) := Gr.own (((Gr.new hd).trans (Gr.new ht)).trans (Gr.new hl)) hd
  have hi0 : Inc H1 (upd (upd (upd (upd H1 d (.dK [])) t (.tup [])) l (.lst [.ref t])) d (.dK (mergeK [] [(.inl 0, .ref l)]))) d [(.inl 0, .ref l)] (fun n => if n = 0 then [[]] else []) := by
    have hld : l ≠ d := fun z => by rw [z] at hl; rw [upd_ne (fun y => by rw [y, upd_same] at ht; cases ht), upd_same] at hl; cases hl
    have htd : t ≠ d := fun z => by rw [z, upd_same] at ht; cases ht
    have htl : t ≠ l := fun z => by rw [z, upd_same] at hl; cases hl
    refine ⟨hd, upd_same, fun n hn => ?_, fun n v hv => ?_, fun n m l' h1 h2 => ?_⟩
    · by_cases z : n = 0
      · rw [z] at hn; cases hn
      · exact if_neg z
    · by_cases z : n = 0
      · rw [z] at hv ⊢
        refine ⟨l, [.ref t], (Option.some.inj hv).symm, hl1, by rw [upd_ne hld, upd_same], .cons ⟨t, [], rfl, by rw [upd_ne htd, upd_ne htl, upd_same], .nil, fun b hb => nomatch hb⟩ .nil, by simp⟩
      · rw [valV_neg (fun y => z (by have := Sum.inl.inj y; omega))] at hv
        cases hv
    · have z1 : n = 0 := by
        by_cases z : n = 0
        · exact z
        · rw [valV_neg (fun y => z (by have := Sum.inl.inj y; omega))] at h1; cases h1
      have z2 : m = 0 := by
        by_cases z : m = 0
        · exact z
        · rw [valV_neg (fun y => z (by have := Sum.inl.inj y; omega))] at h2; cases h2
      omega
  generalize upd (upd (upd (upd H1 d (.dK [])) t (.tup [])) l (.lst [.ref t])) d (.dK (mergeK [] [(.inl 0, .ref l)])) = H2 at gs hi0 ⊢
  have lxs := form.rows.length
  walk_at "go2"
  refine s_for (i_rng ?_)
  walk_at "go2"
  refine ⟨a, xs, rfl, .inr (SqT.of (gs.tup _ _ (g1.tup _ _ ha))), ?_⟩
  refine ⟨_, rfl, by omega, by omega, ?_⟩
  rw [Int.toNat_natCast]
  refine for_range (fun i σ H' => ∃ kvs I u3 u4 u5, σ = [some sv, some (.ref a), some (.ref d), u3, u4, u5] ∧ Gr no H1 H' ∧ Inc H1 H' d kvs I ∧ JI (kinds sch) cs i kvs I) ⟨_, _, _, _, _, rfl, gs, hi0, ?_⟩ ?_ ?_
  · refine ⟨by simp, fun j x hj => absurd hj (Nat.not_lt_zero _), ⟨0, Nat.le_refl _, Nat.zero_le _, by simp⟩, fun n => ?_, fun n s hs => ?_, by simp⟩
    · by_cases z : n = 0 <;> simp [z]
    · by_cases z : n = 0
      · simp [z] at hs; rw [hs]; simp
      · simp [z] at hs
  · rintro i σ H' hi ⟨kvs, I, u3, u4, u5, rfl, g2, hI, hJ⟩
    rw [Int.zero_add]
    have hil : i < cs.length := by omega
    have hx : cs[i]? = some cs[i] := List.getElem?_eq_getElem hil
    generalize cs[i] = x at hx
    obtain ⟨xv, hxv, ⟨b, rfl, hb⟩⟩ := Paired.get form.rows hx
    have okx : InsOk x := form.ok x (List.mem_of_getElem? hx)
    walk_at "go2"
    have G2 : Gr no H H' := g1.trans g2
    refine r_dni ?_
    walk_at "go2"
    refine ⟨d, _, rfl, DGet.k (k := .inl (i : Int)) hI.here, ?_⟩
    walk_at "go2"
    cases hv : valV kvs (.inl (i : Int)) with
    | none =>
      walk_at "go2"
      exact ⟨kvs, I, _, _, _, rfl, g2, hI, hJ.skip (hI.none_ i hv)⟩
    | some v =>
      obtain ⟨l1, ys, rfl, e2, e3, e4, e5⟩ := hI.some_ i v hv
      refine if_f rfl ?_
      walk_at "go2"
      refine r_dget ?_
      walk_at "go2"
      refine ⟨d, .ref l1, rfl, by rw [← hv]; exact DGet.k (k := .inl (i : Int)) hI.here, ?_⟩
      walk_at "go2"
      have hcl := form.len
      refine ⟨l1, i, ys, I i, rfl, e3, e4, e5, by have := hJ.szl i; omega, fun s hs => by have := hJ.szs i s hs; omega, he.gr G2, fun H3 u st g3 hst hsl hsub => ?_⟩
      have hsl2 : st.length ≤ i := by
        obtain ⟨s1, hs1⟩ := List.exists_mem_of_ne_nil _ e5
        have := Paired.length (hsub s1 hs1)
        have := hJ.szs i s1 hs1
        omega
      have G3 : Gr no H H3 := G2.trans g3
      walk_at "go2"
      refine r_ixT (G3.tup _ _ ha) (atI_nat hxv) ?_
      walk_at "go2"
      have hbx : H3 b = some (.tup x.row) := (g2.trans g3).tup _ _ hb
      refine ⟨sv, .ref b, u, i, sch, x, st, rfl, hsch.gr G3, ⟨b, rfl, hbx⟩, okx, hst, by omega, TabG.gr G3 hT, he.gr G3, fun H4 u2 st' g4 hst' hl' hao => ?_⟩
      have G4 : Gr no H H4 := G3.trans g4
      have g14 : Gr no H1 H4 := (g2.trans g3).trans g4
      have hI4 := hI.gr (g3.trans g4)
      have hb4 : H4 b = some (.tup x.row) := g4.tup _ _ hbx
      have kl : kvs.length ≤ 4000 := by have := hJ.szk; omega
      have il : ∀ m, (I m).length ≤ 4000 := fun m => by have := hJ.szl m; omega
      rcases kind3 x with ⟨k, rfl⟩ | ⟨k, rfl⟩ | ⟨kn1, kn2, kn3, kn4⟩
      · obtain ⟨k0, k1⟩ := (show 0 ≤ k ∧ k ≤ 1000000000 from okx)
        have hsk := form.skip i _ k hx rfl
        have hb5 : H4 b = some (.tup [.str "jump", .int k]) := hb4
        walk_at "go2"
        refine add_step (n := i + 1 + k.toNat) rfl rfl (hI4.gr (Gr.new (by assumption))) (g14.trans (Gr.new (by assumption))) (hst'.gr (Gr.new (x := no) (by assumption))) (fun Q hq => ?_) (by omega) (by have := il (i + 1 + k.toNat); omega) fun kvs' H6 hI6 g6 k6 t6 gy => ?_
        · walk_at "go2"
          rw [show (i : Int) + 1 + k = ((i + 1 + k.toNat : Nat) : Int) by omega]
          exact hq
        · have hb6 : H6 b = some (.tup [.str "jump", .int k]) := t6 _ _ (look_old hb5 (by assumption))
          walk_at "go2"
          refine ⟨kvs', _, _, _, _, rfl, g6, hI6, hJ.turn hx hsub hao (by omega) (fun m s hs => addI_sub hs) (fun m hm => addI_ne (by omega)) (fun m s hs => (addI_mem hs).imp id (·.2)) (fun m => by have := addI_len (I := I) (st := st') (n := i + 1 + k.toNat) (m := m); omega) (fun k' e => ?_) (fun e => absurd trivial e) ⟨i + 1 + k.toNat, by omega, by omega, ?_⟩ (by omega)⟩
          · cases e
            exact ⟨k0, by rw [addI_same]; simp⟩
          · rw [addI_same]; simp
      · obtain ⟨k0, k1⟩ := (show 0 ≤ k ∧ k ≤ 1000000000 from okx)
        have hsk := form.skip i _ k hx rfl
        have hb5 : H4 b = some (.tup [.str "unless", .int k]) := hb4
        walk_at "go2"
        refine add_step (n := i + 1 + k.toNat) rfl rfl (hI4.gr (Gr.new (by assumption))) (g14.trans (Gr.new (by assumption))) (hst'.gr (Gr.new (x := no) (by assumption))) (fun Q hq => ?_) (by omega) (by have := il (i + 1 + k.toNat); omega) fun kvs' H6 hI6 g6 k6 t6 gy => ?_
        · walk_at "go2"
          rw [show (i : Int) + 1 + k = ((i + 1 + k.toNat : Nat) : Int) by omega]
          exact hq
        · have hb6 : H6 b = some (.tup [.str "unless", .int k]) := t6 _ _ (look_old hb5 (by assumption))
          obtain ⟨y, gy⟩ := gy
          have hst6 : StV H6 u2 st' := (hst'.gr (Gr.new (x := no) (by assumption))).gr gy
          walk_at "go2"
          refine add_step (n := i + 1) rfl rfl hI6 g6 hst6 (fun Q hq => ?_) (by omega) (by have := addI_len (I := I) (st := st') (n := i + 1 + k.toNat) (m := i + 1); have := il (i + 1); omega) fun kvs7 H7 hI7 g7 k7 t7 gy7 => ?_
          · walk_at "go2"
            rw [show (i : Int) + 1 = ((i + 1 : Nat) : Int) by omega]
            exact hq
          · walk_at "go2"
            refine ⟨kvs7, _, _, _, _, rfl, g7, hI7, hJ.turn hx hsub hao (by omega) (fun m s hs => addI_sub (addI_sub hs)) (fun m hm => by rw [addI_ne (by omega), addI_ne (by omega)]) (fun m s hs => ?_) (fun m => by have := addI_len (I := I) (st := st') (n := i + 1 + k.toNat) (m := m); have := addI_len (I := addI I (i + 1 + k.toNat) st') (st := st') (n := i + 1) (m := m); omega) (fun k' e => ?_) (fun _ => by rw [addI_same]; simp) ⟨i + 1, by omega, by omega, ?_⟩ (by omega)⟩
            · rcases addI_mem hs with z | z
              · exact (addI_mem z).imp id (·.2)
              · exact .inr z.2
            · cases e
              exact ⟨k0, addI_sub (by rw [addI_same]; simp)⟩
            · rw [addI_same]; simp
      · have hb5 : H4 b = some (.tup (.str x.hd :: x.ops)) := by rw [← row_hd]; exact hb4
        walk_at "go2"
        refine if_f kn1 ?_
        walk_at "go2"
        refine if_sn (fun _ => ?_) (fun e => absurd e kn2)
        walk_at "go2"
        refine add_step (n := i + 1) rfl rfl (hI4.gr (Gr.new (by assumption))) (g14.trans (Gr.new (by assumption))) (hst'.gr (Gr.new (x := no) (by assumption))) (fun Q hq => ?_) (by omega) (by have := il (i + 1); omega) fun kvs' H6 hI6 g6 k6 t6 gy => ?_
        · walk_at "go2"
          rw [show (i : Int) + 1 = ((i + 1 : Nat) : Int) by omega]
          exact hq
        · walk_at "go2"
          refine ⟨kvs', _, _, _, _, rfl, g6, hI6, hJ.turn hx hsub hao (by omega) (fun m s hs => addI_sub hs) (fun m hm => addI_ne (by omega)) (fun m s hs => (addI_mem hs).imp id (·.2)) (fun m => by have := addI_len (I := I) (st := st') (n := i + 1) (m := m); omega) (fun k' e => by rw [kn3] at e; cases e) (fun _ => by rw [addI_same]; simp) ⟨i + 1, by omega, by omega, ?_⟩ (by omega)⟩
          rw [addI_same]; simp
  · rintro σ H' ⟨kvs, I, u3, u4, u5, rfl, g2, hI, hJ⟩
    rw [lxs] at hJ
    obtain ⟨acc, hne⟩ := hJ.fin form.ok
    have hcl := form.len
    have G2 : Gr no H H' := g1.trans g2
    have ha2 := G2.tup _ _ ha
    walk_at "go2"
    refine r_dget ?_
    walk_at "go2"
    refine ⟨a, xs, rfl, .inr (SqT.of ha2), ?_⟩
    obtain ⟨l1, ys, ev, e2, e3, e4, e5⟩ : ∃ l ys, valV kvs (.inl ((xs.length : Nat) : Int)) = some (.ref l) ∧ H1 l = none ∧ H' l = some (.lst ys) ∧ Paired (StV H') ys (I cs.length) ∧ I cs.length ≠ [] := by
      rw [lxs]
      cases hv : valV kvs (.inl ((cs.length : Nat) : Int)) with
      | none => exact absurd (hI.none_ _ hv) hne
      | some v =>
        obtain ⟨l, ys, rfl, e⟩ := hI.some_ _ v hv
        exact ⟨l, ys, rfl, e⟩
    refine ⟨d, .ref l1, rfl, by rw [← ev]; exact DGet.k (k := .inl ((xs.length : Nat) : Int)) hI.here, ?_⟩
    walk_at "go2"
    refine ⟨a, xs, rfl, .inr (SqT.of ha2), ?_⟩
    walk_at "go2"
    refine ⟨l1, xs.length, ys, I cs.length, rfl, e3, e4, e5, by have := hJ.szl cs.length; omega, fun s hs => by have := hJ.szs _ s hs; omega, he.gr G2, fun H3 u st g3 hst hsl hsub => ?_⟩
    obtain ⟨pa, zs, rfl, hpa, hzs, _⟩ := hst
    have G3 : Gr no H H3 := G2.trans g3
    have ha3 := G3.tup _ _ ha
    walk_at "go2"
    refine ⟨pa, zs, rfl, .inr (SqT.of hpa), ?_⟩
    walk_at "go2"
    refine if_dec (fun c1 => ?_) (fun c1 => ?_)
    · refine r_bad ?_
      walk_at "go2"
      refine ⟨a, xs, rfl, .inr (SqT.of ha3), ?_⟩
      walk_at "go2"
      exact ⟨rfl, fun dd => he dd _ G3⟩
    · walk_at "go2"
      exact q _ cs G3 (insV_gr (g2.trans g3) form.rows) hcl acc
end
end Snk
set_option Elab.async false
set_option linter.all false
set_option maxRecDepth 100000
set_option maxHeartbeats 4000000
namespace Snk
open PySem PySem.Spec PyProof.Rows L2 GxR GxT
theorem ty_lst {K : PySem.W.Frag} {H : Hp} {l : Addr} {xs : List V} (h : H l = some (.lst xs)) : tyV K "list" (.ref l) H := .inl ⟨rfl, xs, SqL.of h⟩
theorem r_app {H : Hp} {l : Addr} {xs : List V} {y : V} {Q : VK} (h : H l = some (.lst xs)) (z : xs.length ≤ 100000) (q : Q .non (upd H l (.lst (xs ++ [y])))) : rAppend (.ref l) [y] H Q :=
  ⟨l, xs, y, rfl, rfl, h, Nat.lt_of_le_of_lt z (by decide), q⟩
theorem r_pop {H : Hp} {l : Addr} {s : List V} {v : V} {Q : VK} (h : H l = some (.lst (s ++ [v]))) (q : Q v (upd H l (.lst s))) : rPop (.ref l) [] H Q := by
  refine ⟨l, s ++ [v], v, rfl, rfl, h, ?_, ?_⟩
  · rw [List.length_append]
    simp
  · rw [List.dropLast_concat]; exact q
theorem s_aug {i : Nat} {te : TE} {ti : TIp} {D : Ends} {σ : L2.St} {H : Hp} {x : V} (h1 : σ[i]? = some (some x)) (h2 : te σ H fun y H1 => ti x y H1 fun z H2 => D.nx (σ.set i (some z)) H2) : tAug i te ti D σ H := ⟨x, h1, h2⟩
theorem r_ip {f : Int → Int → Int} {a b : Int} {H : Hp} {Q : VK} (q : Q (.int (f a b)) H) : ipI f (.int a) (.int b) H Q := ⟨a, b, rfl, rfl, q⟩
theorem r_gsub {to ti : TE} {t : TSet} {v : V} {σ : L2.St} {H : Hp} {Q : L2.St → Hp → Prop} (h : to σ H fun o H1 => ti σ H1 fun i H2 => t o i v H2 fun H3 => Q σ H3) : gSub to ti t v σ H Q := h
theorem r_setL {H : Hp} {l : Addr} {xs : List V} {k : Int} {v : V} {Q : Hp → Prop} (h : H l = some (.lst xs)) (h0 : 0 ≤ k) (h1 : k.toNat < xs.length) (q : Q (upd H l (.lst (xs.set k.toNat v)))) : rSetL (.ref l) (.int k) v H Q := by
  refine ⟨l, xs, k, k.toNat, rfl, rfl, h, ?_, q⟩
  unfold ixN
  rw [if_pos h0, if_pos (by omega)]
theorem look_t {H : Hp} {a l : Addr} {xs ys : List V} {o : HO} (h : H a = some (.tup xs)) (hl : H l = some (.lst ys)) : upd H l o a = some (.tup xs) := by rw [upd_ne (fun z => by rw [z, hl] at h; cases h)]; exact h
theorem look_n {H : Hp} {a l : Addr} {u o : HO} (h : H a = some u) (n : a ≠ l) : upd H l o a = some u := by rw [upd_ne n]; exact h
theorem look_td {H : Hp} {a l : Addr} {xs : List V} {kvs : List (L2.Key × V)} {o : HO} (h : H a = some (.tup xs)) (hl : H l = some (.dK kvs)) : upd H l o a = some (.tup xs) := by rw [upd_ne (fun z => by rw [z, hl] at h; cases h)]; exact h
theorem look_ld {H : Hp} {a l : Addr} {xs : List V} {kvs : List (L2.Key × V)} {o : HO} (h : H a = some (.lst xs)) (hl : H l = some (.dK kvs)) : upd H l o a = some (.lst xs) := by rw [upd_ne (fun z => by rw [z, hl] at h; cases h)]; exact h
end Snk
set_option Elab.async false
set_option linter.all false
set_option maxRecDepth 100000
set_option maxHeartbeats 4000000
namespace Snk
open PySem PySem.Spec PyProof.Rows L2 GxR GxT
local macro_rules | `(tactic| walk_at "K") => `(tactic| try simp only [ws_K, ws_P, ws_w, cx_K, cx_P, cx_w])
local macro_rules | `(tactic| walk_at "isi") => `(tactic| first
  | with_reducible refine r_isB (.base (.int _)) kk_int_int ?_ | with_reducible refine r_isB (.base (.int _)) kk_int_bool ?_ | with_reducible refine r_isB (.base (.int _)) kk_int_str ?_ | with_reducible refine r_isB (.base (.int _)) kk_int_tuple ?_ | with_reducible refine r_isB (.base (.bl _)) kk_bool_int ?_ | with_reducible refine r_isB (.base (.bl _)) kk_bool_bool ?_ | with_reducible refine r_isB (.base (.bl _)) kk_bool_str ?_ | with_reducible refine r_isB (.base (.bl _)) kk_bool_tuple ?_ | with_reducible refine r_isB (.base (.str _)) kk_str_int ?_ | with_reducible refine r_isB (.base (.str _)) kk_str_bool ?_ | with_reducible refine r_isB (.base (.str _)) kk_str_str ?_ | with_reducible refine r_isB (.base (.str _)) kk_str_tuple ?_ | with_reducible refine r_isB (.base .non) kk_NoneType_int ?_ | with_reducible refine r_isB (.base .non) kk_NoneType_bool ?_ | with_reducible refine r_isB (.base .non) kk_NoneType_str ?_ | with_reducible refine r_isB (.base .non) kk_NoneType_tuple ?_ | with_reducible refine r_isB (.base (.tup (by assumption))) kk_tuple_int ?_ | with_reducible refine r_isB (.base (.tup (by assumption))) kk_tuple_bool ?_ | with_reducible refine r_isB (.base (.tup (by assumption))) kk_tuple_str ?_ | with_reducible refine r_isB (.base (.tup (by assumption))) kk_tuple_tuple ?_)
local macro_rules | `(tactic| tb_rel) => `(tactic| first | assumption | exact upd_same | ((refine look_old ?hl ?hn); (case hn => assumption); (case hl => tb_rel)) | ((refine Gr.tup (by assumption) _ _ ?hl); (case hl => tb_rel)))
local macro_rules | `(tactic| tb_start) => `(tactic| first
  | ((with_reducible refine' r_var ?hvar ?_); (case hvar => exact rfl))
  | with_reducible refine r_c ?_ | with_reducible refine r_op ?_ | with_reducible refine r_un ?_ | with_reducible refine r_chain ?_ | with_reducible refine r_tup ?_ | with_reducible refine r_lst ?_ | with_reducible refine r_cons ?_ | with_reducible refine r_nil ?_ | with_reducible refine r_cb ?_ | with_reducible refine r_call ?_ | with_reducible refine r_bm ?_ | with_reducible refine r_bm0 ?_ | with_reducible refine r_sl ?_ | with_reducible refine r_test ?_ | with_reducible refine r_tb ?_ | with_reducible refine r_tand ?_ | with_reducible refine r_tor ?_ | with_reducible refine r_tnot ?_ | with_reducible refine r_andV ?_ | with_reducible refine r_orV ?_ | with_reducible refine r_notV ?_ | with_reducible refine r_ife ?_ | with_reducible refine s_seq ?_ | with_reducible refine s_nextM ?_ | with_reducible refine s_next ?_ | with_reducible refine s_ret ?_ | with_reducible refine s_if ?_ | with_reducible refine s_asg ?_ | with_reducible refine s_drop ?_ | with_reducible refine s_cont ?_ | with_reducible refine s_break ?_ | with_reducible refine g_name ?_ | with_reducible refine r_I0 ?_ | with_reducible refine r_U ?_ | with_reducible refine k_bl2 ?_ | with_reducible refine r_part ?_ | with_reducible refine r_nopart ?_ | with_reducible refine if_tt ?_ | with_reducible refine if_ff ?_ | with_reducible refine if_nf ?_ | with_reducible refine if_nt ?_
  | ((with_reducible refine' r_eq ?hsc ?_); (case hsc => exact rfl)) | ((with_reducible refine' r_ne ?hsc ?_); (case hsc => exact rfl)) | ((with_reducible refine isi_g ?_); walk_at "isi") | (first | ((with_reducible refine' r_ixT ?hix ?eix ?_); (case hix => tb_rel); (case eix => first | exact at0 | exact at1 | exact at2 | rfl))) | ((with_reducible refine' if_t ?hc ?_); (case hc => decide +kernel)) | ((with_reducible refine' if_f ?hc ?_); (case hc => decide +kernel)))
local macro_rules | `(tactic| walk_at "go") => `(tactic| repeat tb_start)
local macro_rules | `(tactic| walk_at "gr") => `(tactic| first | exact Gr.refl _ _ | assumption | ((refine Gr.trans ?ga (Gr.new ?gn)); (case gn => assumption); (case ga => walk_at "gr")) | ((refine' Gr.trans ?ga ?gb); (case gb => assumption); (case ga => walk_at "gr")))
local macro_rules | `(tactic| walk_at "go2") => `(tactic| repeat (first | tb_start | (((with_reducible refine' And.intro ?hz ?_); (case hz => (refine sz10 ?_; first | decide | (simp; done) | (simp; omega))); intro p hp)) | (first | ((with_reducible refine' r_inT ?hs ?hf ?ha ?_); (case hs => first | assumption | exact SqT.of (by tb_rel)); (case hf => rfl); (case ha => first | rfl | decide +kernel | exact flat_strs)) | ((with_reducible refine' r_niT ?hs ?hf ?ha ?_); (case hs => first | assumption | exact SqT.of (by tb_rel)); (case hf => rfl); (case ha => first | rfl | decide +kernel | exact flat_strs)))))
local macro_rules | `(tactic| tb_start) => `(tactic| with_reducible refine k_int ?_)
local macro_rules | `(tactic| tb_start) => `(tactic| ((with_reducible refine' And.intro (ty_lst ?ht) ?_); (case ht => tb_rel)))
local macro_rules | `(tactic| tb_start) => `(tactic| ((with_reducible refine' s_aug ?h1 ?_); (case h1 => exact rfl)))
local macro_rules | `(tactic| tb_start) => `(tactic| with_reducible refine r_ip ?_)
local macro_rules | `(tactic| tb_start) => `(tactic| with_reducible refine r_gsub ?_)
local macro_rules | `(tactic| tb_rel) => `(tactic| first | assumption | exact upd_same | ((with_reducible refine look_old ?hl ?hn); (case hn => assumption); (case hl => tb_rel)) | ((with_reducible refine' look_n ?h1 ?nn); (case nn => first | assumption | exact Ne.symm (by assumption)); (case h1 => tb_rel)) | ((with_reducible refine' look_t ?h1 ?h2); (case h2 => tb_rel); (case h1 => tb_rel)) | ((with_reducible refine' look_td ?h1 ?h2); (case h2 => tb_rel); (case h1 => tb_rel)) | ((with_reducible refine' look_ld ?h1 ?h2); (case h2 => tb_rel); (case h1 => tb_rel)) | ((refine Gr.tup (by assumption) _ _ ?hl); (case hl => tb_rel)))
section
variable {P : Program} {w : World} {K : PySem.W.Frag} {mg : Str → Option Value} {base : Heap}
/-! ### step -/
abbrev nm_step : List Str := ["instruction", "stack", "values", "head", "other", "value"]
theorem sc_step : FnScope nm_step ["instruction", "stack", "values"] (defScope (topS 29)) := ⟨rfl, rfl, rfl, by decide +kernel, rfl, by decide +kernel, by decide +kernel⟩
-- slots: 0:instruction 1:stack 2:values 3:head 4:other 5:value
def spStep : Sp := fun vs H Q _ => ∃ (a sl vl : Addr) (x : Ins) (st st' rs rs' : List V) (d : Int), vs = [.ref a, .ref sl, .ref vl] ∧ H a = some (.tup x.row) ∧ H sl = some (.lst st) ∧ H vl = some (.lst rs) ∧ sl ≠ vl ∧ InsOk x ∧ skipOf x = none ∧ st.length ≤ 5000 ∧ StepV x st rs st' rs' d ∧
  ∀ H', Gr (fun b => b = sl ∨ b = vl) H H' → H' sl = some (.lst st') → H' vl = some (.lst rs') → Q .non H'
theorem nm_pw (o : POp) : inV (.str o.nm) [.str "push", .str "word"] = false := by cases o <;> decide +kernel
theorem head1_of {x : Ins} {v z : V} (h : OpV x [v] z) : ∃ nv, Head1 x x.hd nv ∧ (x.ops = [nv] ∨ x = .not) := by
  cases h with
  | not => exact ⟨.int 0, .not, .inr rfl⟩
  | div => exact ⟨_, .div, .inl rfl⟩
  | mod => exact ⟨_, .mod, .inl rfl⟩
  | cut => exact ⟨_, .cut, .inl rfl⟩
set_option maxHeartbeats 16000000 in
theorem c_step (D : DefAt K mg "step" 29 ["instruction", "stack", "values"]) (B : Blt mg) (G : Glo K mg) (c_combine : Cal P w K mg base CX0 1 "combine" ["head", "a", "b"] spComb) (c_alter : Cal P w K mg base CX0 1 "alter" ["head", "a", "n"] spAlter) : Cal P w K mg base CX0 2 "step" ["instruction", "stack", "values"] spStep := by
  obtain ⟨aP, gPAIRS, hP⟩ := G.pairs
  refine mk0 D sc_step (fun vs H Q E h => by obtain ⟨_, _, _, _, _, _, _, _, _, rfl, _⟩ := h; rfl) ?_
  rintro X Q vs H E ⟨f, cdv, A, outer, s, H0, rfl⟩ hr ⟨a, sl, vl, x, st, st', rs, rs', d, rfl, ha, hs, hv, hne, hok, hsk, hl, hst, q⟩
  refine ⟨_, (pss_cons (ps_set (i := 3) sc_step.nd rfl (Or.inl rfl) (pe_ix ix_tup (pv 0) pe_int (fun _ _ => rfl)))
      (pss_one (ps_if (pt_cmpR op_in_seq (pv 3) (pe_tup (pa_cons pe_str (pa_cons pe_str pa_nil))) (by rfl)) (pss_one (ps_expr (pe_bm PySem.F.plainAttrs_list PySem.F.slot_list_append PySem.F.type_list_append mt_append (pv 1) (pa_cons (pe_ix ix_tup (pv 0) pe_int (fun _ _ => rfl)) pa_nil)))) (pss_one (ps_if (pt_cmpR op_eq (pv 3) pe_str (nomark _)) (pss_one (ps_expr (pe_bm PySem.F.plainAttrs_list PySem.F.slot_list_append PySem.F.type_list_append mt_append (pv 1) (pa_cons (pe_ix ix_list (pv 2) (pe_ix ix_tup (pv 0) pe_int (fun _ _ => rfl)) (fun _ _ => rfl)) pa_nil)))) (pss_one (ps_if (pt_cmpR op_eq (pv 3) pe_str (nomark _)) (pss_one (ps_asg (pe_bm0 PySem.F.plainAttrs_list PySem.F.slot_list_pop PySem.F.type_list_pop mt_pop (pv 1)) (pg_sub (pv 2) (pe_ix ix_tup (pv 0) pe_int (fun _ _ => rfl)) set_list))) (pss_one (ps_if (pt_cmpR op_eq (pv 3) pe_str (nomark _)) (pss_cons (ps_set (i := 4) sc_step.nd rfl (Or.inl rfl) (pe_bm0 PySem.F.plainAttrs_list PySem.F.slot_list_pop PySem.F.type_list_pop mt_pop (pv 1)))
      (pss_cons (ps_set (i := 5) sc_step.nd rfl (Or.inl rfl) (pe_bm0 PySem.F.plainAttrs_list PySem.F.slot_list_pop PySem.F.type_list_pop mt_pop (pv 1)))
      (pss_one (ps_expr (pe_bm PySem.F.plainAttrs_list PySem.F.slot_list_append PySem.F.type_list_append mt_append (pv 1) (pa_cons (pe_ifExp (pt_val (pe_bm0 PySem.F.plainAttrs_list PySem.F.slot_list_pop PySem.F.type_list_pop mt_pop (pv 1))) (pv 5) (pv 4)) pa_nil)))))) (pss_one (ps_if (pt_cmpR op_in_seq (pv 3) (pe_glob (v := .ref aP) rfl gPAIRS rfl) (by rfl)) (pss_cons (ps_set (i := 4) sc_step.nd rfl (Or.inl rfl) (pe_bm0 PySem.F.plainAttrs_list PySem.F.slot_list_pop PySem.F.type_list_pop mt_pop (pv 1)))
      (pss_one (ps_expr (pe_bm PySem.F.plainAttrs_list PySem.F.slot_list_append PySem.F.type_list_append mt_append (pv 1) (pa_cons (pc0 c_combine hr (by decide) (pa_cons (pv 3) (pa_cons (pe_bm0 PySem.F.plainAttrs_list PySem.F.slot_list_pop PySem.F.type_list_pop mt_pop (pv 1)) (pa_cons (pv 4) pa_nil)))) pa_nil))))) (pss_one (ps_if (pt_cmpR op_eq (pv 3) pe_str (nomark _)) (pss_one (ps_expr (pe_bm PySem.F.plainAttrs_list PySem.F.slot_list_append PySem.F.type_list_append mt_append (pv 1) (pa_cons (pc0 c_alter hr (by decide) (pa_cons (pv 3) (pa_cons (pe_bm0 PySem.F.plainAttrs_list PySem.F.slot_list_pop PySem.F.type_list_pop mt_pop (pv 1)) (pa_cons pe_int pa_nil)))) pa_nil)))) (pss_one (ps_expr (pe_bm PySem.F.plainAttrs_list PySem.F.slot_list_append PySem.F.type_list_append mt_append (pv 1) (pa_cons (pc0 c_alter hr (by decide) (pa_cons (pv 3) (pa_cons (pe_bm0 PySem.F.plainAttrs_list PySem.F.slot_list_pop PySem.F.type_list_pop mt_pop (pv 1)) (pa_cons (pe_ix ix_tup (pv 0) pe_int (fun _ _ => rfl)) pa_nil)))) pa_nil))))))))))))))))), ?_⟩
  walk_at "K"
  have app : ∀ {H2 : Hp} {s1 : List V} {u : V}, Gr (fun b => b = sl ∨ b = vl) H H2 → H2 sl = some (.lst s1) → H2 vl = some (.lst rs) → s1.length ≤ 5000 → s1 ++ [u] = st' → rs = rs' → rAppend (.ref sl) [u] H2 (fun _ H1 => Q .non H1) := by
    intro H2 s1 u g h1 h2 hz e1 e2
    refine r_app h1 (by omega) (q _ (g.trans (Gr.put h1 (.inl rfl))) ?_ ?_)
    · rw [upd_same, e1]
    · rw [upd_ne (Ne.symm hne), h2, e2]
  cases hst with
  | push =>
    rename_i v
    have ha' : H a = some (.tup [.str "push", v]) := ha
    walk_at "go2"
    exact app (by walk_at "gr") (by tb_rel) (by tb_rel) hl rfl rfl
  | word =>
    rename_i z
    have ha' : H a = some (.tup [.str "word", .str z]) := ha
    walk_at "go2"
    exact app (by walk_at "gr") (by tb_rel) (by tb_rel) hl rfl rfl
  | @load i v s r h0 hi =>
    have ha' : H a = some (.tup [.str "load", .int i]) := ha
    walk_at "go2"
    refine r_ixL (by tb_rel) (at_k h0 hi) ?_
    walk_at "go2"
    exact app (by walk_at "gr") (by tb_rel) (by tb_rel) hl rfl rfl
  | @store i v s r h0 hi =>
    have ha' : H a = some (.tup [.str "store", .int i]) := ha
    walk_at "go2"
    refine r_pop (by tb_rel) ?_
    walk_at "go2"
    refine r_setL (xs := rs) (by tb_rel) h0 hi ?_
    refine q _ ?_ (by tb_rel) upd_same
    refine Gr.trans (Gr.trans (Gr.new (by assumption)) (Gr.put (by tb_rel) (.inl rfl))) (Gr.put (xs := rs) (by tb_rel) (.inr rfl))
  | @op x vs s r z h =>
    have grp : ∀ {H2 : Hp} {s1 s2 : List V}, Gr (fun b => b = sl ∨ b = vl) H H2 → H2 sl = some (.lst s1) → Gr (fun b => b = sl ∨ b = vl) H (upd H2 sl (.lst s2)) := fun g h => g.trans (Gr.put h (.inl rfl))
    cases h with
    | @pair o a1 b1 c1 hp =>
      have ha' : H a = some (.tup [.str o.nm]) := ha
      have hs' : H sl = some (.lst ((s ++ [a1]) ++ [b1])) := by rw [hs]; simp
      walk_at "go2"
      refine if_f (nm_pw o) ?_
      walk_at "go2"
      refine if_s (fun e => absurd e (nm_no o (by simp))) (fun _ => ?_)
      walk_at "go2"
      refine if_s (fun e => absurd e (nm_no o (by simp))) (fun _ => ?_)
      walk_at "go2"
      refine if_s (fun e => absurd e (nm_ne o)) (fun _ => ?_)
      walk_at "go2"
      refine r_inT (hP _) rfl (by decide +kernel) ?_
      walk_at "go2"
      refine if_t (nm_in o) ?_
      walk_at "go2"
      refine r_pop (s := s ++ [a1]) (v := b1) (by tb_rel) ?_
      walk_at "go2"
      refine r_pop (s := s) (v := a1) upd_same ?_
      walk_at "go2"
      refine ⟨o, a1, b1, z, rfl, hp, fun H' g => ?_⟩
      have l1 : (s ++ [a1, b1]).length = s.length + 2 := by simp
      refine app (Gr.trans ?_ g.any) (g.lst upd_same id) (g.lst (by tb_rel) id) (by omega) rfl rfl
      exact grp (grp (by walk_at "gr") (by tb_rel)) upd_same
    | @pick c a1 b1 =>
      have ha' : H a = some (.tup [.str "pick"]) := ha
      have hs' : H sl = some (.lst (((s ++ [.bl c]) ++ [a1]) ++ [b1])) := by rw [hs]; simp
      have l1 : (s ++ [V.bl c, a1, b1]).length = s.length + 3 := by simp
      walk_at "go2"
      refine r_pop (s := (s ++ [.bl c]) ++ [a1]) (v := b1) (by tb_rel) ?_
      walk_at "go2"
      refine r_pop (s := s ++ [.bl c]) (v := a1) upd_same ?_
      walk_at "go2"
      refine r_pop (s := s) (v := .bl c) upd_same ?_
      have fin : ∀ u, u = (if c = true then a1 else b1) → rAppend (.ref sl) [u] (upd (upd (upd (upd H _ (.tup [.str "push", .str "word"])) sl (.lst ((s ++ [.bl c]) ++ [a1]))) sl (.lst (s ++ [.bl c]))) sl (.lst s)) (fun _ H1 => Q .non H1) := fun u e => by
        subst e
        refine app ?_ upd_same (by tb_rel) (by omega) rfl rfl
        exact grp (grp (grp (by walk_at "gr") (by tb_rel)) upd_same) upd_same
      cases c with
      | true =>
        walk_at "go2"
        exact fin _ rfl
      | false =>
        walk_at "go2"
        exact fin _ rfl
    | @not b =>
      have ha' : H a = some (.tup [.str "not"]) := ha
      have l1 : (s ++ [V.bl b]).length = s.length + 1 := by simp
      walk_at "go2"
      refine r_inT (hP _) rfl (by decide +kernel) ?_
      walk_at "go2"
      refine r_pop (s := s) (v := .bl b) (by tb_rel) ?_
      walk_at "go2"
      refine ⟨.not, _, _, _, _, rfl, .not, .not, fun H' g => ?_⟩
      refine app (Gr.trans ?_ g.any) (g.lst upd_same id) (g.lst (by tb_rel) id) (by omega) rfl rfl
      exact grp (by walk_at "gr") (by tb_rel)
    | @div n i h =>
      have ha' : H a = some (.tup [.str "div", .int n]) := ha
      have l1 : (s ++ [V.int i]).length = s.length + 1 := by simp
      walk_at "go2"
      refine r_inT (hP _) rfl (by decide +kernel) ?_
      walk_at "go2"
      refine r_pop (s := s) (v := .int i) (by tb_rel) ?_
      walk_at "go2"
      refine ⟨.div n, _, _, _, _, rfl, .div, .div h, fun H' g => ?_⟩
      refine app (Gr.trans ?_ g.any) (g.lst upd_same id) (g.lst (by tb_rel) id) (by omega) rfl rfl
      exact grp (by walk_at "gr") (by tb_rel)
    | @mod n i h =>
      have ha' : H a = some (.tup [.str "mod", .int n]) := ha
      have l1 : (s ++ [V.int i]).length = s.length + 1 := by simp
      walk_at "go2"
      refine r_inT (hP _) rfl (by decide +kernel) ?_
      walk_at "go2"
      refine r_pop (s := s) (v := .int i) (by tb_rel) ?_
      walk_at "go2"
      refine ⟨.mod n, _, _, _, _, rfl, .mod, .mod h, fun H' g => ?_⟩
      refine app (Gr.trans ?_ g.any) (g.lst upd_same id) (g.lst (by tb_rel) id) (by omega) rfl rfl
      exact grp (by walk_at "gr") (by tb_rel)
    | @cut n i h h0 =>
      have ha' : H a = some (.tup [.str "cut", .int n]) := ha
      have l1 : (s ++ [V.str i]).length = s.length + 1 := by simp
      walk_at "go2"
      refine r_inT (hP _) rfl (by decide +kernel) ?_
      walk_at "go2"
      refine r_pop (s := s) (v := .str i) (by tb_rel) ?_
      walk_at "go2"
      refine ⟨.cut n, _, _, _, _, rfl, .cut, .cut h h0, fun H' g => ?_⟩
      refine app (Gr.trans ?_ g.any) (g.lst upd_same id) (g.lst (by tb_rel) id) (by omega) rfl rfl
      exact grp (by walk_at "gr") (by tb_rel)
  | jump => cases hsk
  | _ => cases hsk
end
end Snk
set_option Elab.async false
set_option linter.all false
set_option maxRecDepth 100000
set_option maxHeartbeats 4000000
namespace Snk
open PySem PySem.Spec PyProof.Rows L2 GxR GxT
local macro_rules | `(tactic| walk_at "K") => `(tactic| try simp only [ws_K, ws_P, ws_w, cx_K, cx_P, cx_w])
local macro_rules | `(tactic| walk_at "isi") => `(tactic| first
  | with_reducible refine r_isB (.base (.int _)) kk_int_int ?_ | with_reducible refine r_isB (.base (.int _)) kk_int_bool ?_ | with_reducible refine r_isB (.base (.int _)) kk_int_str ?_ | with_reducible refine r_isB (.base (.int _)) kk_int_tuple ?_ | with_reducible refine r_isB (.base (.bl _)) kk_bool_int ?_ | with_reducible refine r_isB (.base (.bl _)) kk_bool_bool ?_ | with_reducible refine r_isB (.base (.bl _)) kk_bool_str ?_ | with_reducible refine r_isB (.base (.bl _)) kk_bool_tuple ?_ | with_reducible refine r_isB (.base (.str _)) kk_str_int ?_ | with_reducible refine r_isB (.base (.str _)) kk_str_bool ?_ | with_reducible refine r_isB (.base (.str _)) kk_str_str ?_ | with_reducible refine r_isB (.base (.str _)) kk_str_tuple ?_ | with_reducible refine r_isB (.base .non) kk_NoneType_int ?_ | with_reducible refine r_isB (.base .non) kk_NoneType_bool ?_ | with_reducible refine r_isB (.base .non) kk_NoneType_str ?_ | with_reducible refine r_isB (.base .non) kk_NoneType_tuple ?_ | with_reducible refine r_isB (.base (.tup (by assumption))) kk_tuple_int ?_ | with_reducible refine r_isB (.base (.tup (by assumption))) kk_tuple_bool ?_ | with_reducible refine r_isB (.base (.tup (by assumption))) kk_tuple_str ?_ | with_reducible refine r_isB (.base (.tup (by assumption))) kk_tuple_tuple ?_)
local macro_rules | `(tactic| tb_rel) => `(tactic| first | assumption | exact upd_same | ((refine look_old ?hl ?hn); (case hn => assumption); (case hl => tb_rel)) | ((refine Gr.tup (by assumption) _ _ ?hl); (case hl => tb_rel)))
local macro_rules | `(tactic| tb_start) => `(tactic| first
  | ((with_reducible refine' r_var ?hvar ?_); (case hvar => exact rfl))
  | with_reducible refine r_c ?_ | with_reducible refine r_op ?_ | with_reducible refine r_un ?_ | with_reducible refine r_chain ?_ | with_reducible refine r_tup ?_ | with_reducible refine r_lst ?_ | with_reducible refine r_cons ?_ | with_reducible refine r_nil ?_ | with_reducible refine r_cb ?_ | with_reducible refine r_call ?_ | with_reducible refine r_bm ?_ | with_reducible refine r_bm0 ?_ | with_reducible refine r_sl ?_ | with_reducible refine r_test ?_ | with_reducible refine r_tb ?_ | with_reducible refine r_tand ?_ | with_reducible refine r_tor ?_ | with_reducible refine r_tnot ?_ | with_reducible refine r_andV ?_ | with_reducible refine r_orV ?_ | with_reducible refine r_notV ?_ | with_reducible refine r_ife ?_ | with_reducible refine s_seq ?_ | with_reducible refine s_nextM ?_ | with_reducible refine s_next ?_ | with_reducible refine s_ret ?_ | with_reducible refine s_if ?_ | with_reducible refine s_asg ?_ | with_reducible refine s_drop ?_ | with_reducible refine s_cont ?_ | with_reducible refine s_break ?_ | with_reducible refine g_name ?_ | with_reducible refine r_I0 ?_ | with_reducible refine r_U ?_ | with_reducible refine k_bl2 ?_ | with_reducible refine r_part ?_ | with_reducible refine r_nopart ?_ | with_reducible refine if_tt ?_ | with_reducible refine if_ff ?_ | with_reducible refine if_nf ?_ | with_reducible refine if_nt ?_
  | ((with_reducible refine' r_eq ?hsc ?_); (case hsc => exact rfl)) | ((with_reducible refine' r_ne ?hsc ?_); (case hsc => exact rfl)) | ((with_reducible refine isi_g ?_); walk_at "isi") | (first | ((with_reducible refine' r_ixT ?hix ?eix ?_); (case hix => tb_rel); (case eix => first | exact at0 | exact at1 | exact at2 | rfl))) | ((with_reducible refine' if_t ?hc ?_); (case hc => decide +kernel)) | ((with_reducible refine' if_f ?hc ?_); (case hc => decide +kernel)))
local macro_rules | `(tactic| walk_at "go") => `(tactic| repeat tb_start)
local macro_rules | `(tactic| walk_at "gr") => `(tactic| first | exact Gr.refl _ _ | assumption | ((refine Gr.trans ?ga (Gr.new ?gn)); (case gn => assumption); (case ga => walk_at "gr")) | ((refine' Gr.trans ?ga ?gb); (case gb => assumption); (case ga => walk_at "gr")))
local macro_rules | `(tactic| walk_at "go2") => `(tactic| repeat (first | tb_start | (((with_reducible refine' And.intro ?hz ?_); (case hz => (refine sz10 ?_; first | decide | (simp; done) | (simp; omega))); intro p hp)) | (first | ((with_reducible refine' r_inT ?hs ?hf ?ha ?_); (case hs => first | assumption | exact SqT.of (by tb_rel)); (case hf => rfl); (case ha => first | rfl | decide +kernel | exact flat_strs)) | ((with_reducible refine' r_niT ?hs ?hf ?ha ?_); (case hs => first | assumption | exact SqT.of (by tb_rel)); (case hf => rfl); (case ha => first | rfl | decide +kernel | exact flat_strs)))))
local macro_rules | `(tactic| tb_start) => `(tactic| with_reducible refine k_int ?_)
local macro_rules | `(tactic| tb_start) => `(tactic| ((with_reducible refine' And.intro (ty_lst ?ht) ?_); (case ht => tb_rel)))
local macro_rules | `(tactic| tb_start) => `(tactic| ((with_reducible refine' s_aug ?h1 ?_); (case h1 => exact rfl)))
local macro_rules | `(tactic| tb_start) => `(tactic| with_reducible refine r_ip ?_)
local macro_rules | `(tactic| tb_start) => `(tactic| with_reducible refine r_gsub ?_)
local macro_rules | `(tactic| tb_rel) => `(tactic| first | assumption | exact upd_same | ((with_reducible refine look_old ?hl ?hn); (case hn => assumption); (case hl => tb_rel)) | ((with_reducible refine' look_n ?h1 ?nn); (case nn => first | assumption | exact Ne.symm (by assumption)); (case h1 => tb_rel)) | ((with_reducible refine' look_t ?h1 ?h2); (case h2 => tb_rel); (case h1 => tb_rel)) | ((with_reducible refine' look_td ?h1 ?h2); (case h2 => tb_rel); (case h1 => tb_rel)) | ((with_reducible refine' look_ld ?h1 ?h2); (case h2 => tb_rel); (case h1 => tb_rel)) | ((refine Gr.tup (by assumption) _ _ ?hl); (case hl => tb_rel)))
theorem Gr.own2 {y : Addr → Prop} {H H1 H2 : Hp} (a : Gr no H H1) (b : Gr y H1 H2) (h : ∀ l, y l → H l = none) : Gr no H H2 :=
  ⟨fun c o e _ t => b.keep c o (a.keep c o e id t) (fun z => by rw [h c z] at e; cases e) t, fun c q e => b.tup c q (a.tup c q e), fun c ps e => by
    obtain ⟨p1, h1, k1⟩ := a.tab c ps e
    obtain ⟨p2, h2, k2⟩ := b.tab c p1 h1
    exact ⟨p2, h2, fun z => k2 (k1 z)⟩, fun c e => a.free c (b.free c e)⟩
theorem stepV_d {x : Ins} {s r s' r' : List V} {d : Int} (h : StepV x s r s' r' d) (e : skipOf x = none) : d = 0 ∧ s'.length ≤ s.length + 1 ∧ r'.length = r.length := by
  cases h with
  | push => exact ⟨rfl, by simp, rfl⟩
  | word => exact ⟨rfl, by simp, rfl⟩
  | load => exact ⟨rfl, by simp, rfl⟩
  | store => exact ⟨rfl, by rw [List.length_append]; omega, by simp⟩
  | op h => exact ⟨rfl, by simp only [List.length_append, List.length_singleton]; omega, rfl⟩
  | jump => cases e
  | _ => cases e
theorem stepV_jump {x : Ins} {k : Int} {s r s' r' : List V} {d : Int} (h : StepV x s r s' r' d) (e : x = .jump k) : s' = s ∧ r' = r ∧ d = k := by
  cases h with
  | jump => cases e; exact ⟨rfl, rfl, rfl⟩
  | op h => subst e; cases h
  | _ => cases e
theorem stepV_unless {x : Ins} {k : Int} {s r s' r' : List V} {d : Int} (h : StepV x s r s' r' d) (e : x = .unless k) : ∃ b, s = s' ++ [.bl b] ∧ r' = r ∧ d = if b = true then 0 else k := by
  cases h with
  | «unless» => cases e; exact ⟨_, rfl, rfl, rfl⟩
  | op h => subst e; cases h
  | _ => cases e
def muAt (n : Nat) (σ : L2.St) : Nat := match (σ : List (Option V))[4]? with
  | some (some (V.int i)) => n - i.toNat
  | _ => 0
section
variable {P : Program} {w : World} {K : PySem.W.Frag} {mg : Str → Option Value} {base : Heap}
/-! ### run -/
abbrev nm_run : List Str := ["code", "record", "values", "stack", "at", "instruction"]
theorem sc_run : FnScope nm_run ["code", "record"] (defScope (topS 30)) := ⟨rfl, rfl, rfl, by decide +kernel, rfl, by decide +kernel, by decide +kernel⟩
-- slots: 0:code 1:record 2:values 3:stack 4:at 5:instruction
def spRun : Sp := fun vs H Q _ => ∃ (ca ra : Addr) (xs rs q : List V) (cs : List Ins), vs = [.ref ca, .ref ra] ∧ H ca = some (.tup xs) ∧ Paired (InsV H) xs cs ∧ (∀ x ∈ cs, InsOk x) ∧ cs.length ≤ 400 ∧ H ra = some (.tup rs) ∧ rs.length ≤ 100 ∧ Run cs 0 [] rs q ∧
  ∀ H' p, Gr no H H' → H' p = some (.tup q) → Q (.ref p) H'
set_option maxHeartbeats 16000000 in
theorem c_run (D : DefAt K mg "run" 30 ["code", "record"]) (B : Blt mg) (c_step : Cal P w K mg base CX0 2 "step" ["instruction", "stack", "values"] spStep) : Cal P w K mg base CX0 3 "run" ["code", "record"] spRun := by
  refine mk0 D sc_run (fun vs H Q E h => by obtain ⟨_, _, _, _, _, _, rfl, _⟩ := h; rfl) ?_
  rintro X Q vs H E ⟨f, cdv, A, outer, s, H0, rfl⟩ hr ⟨ca, ra, xs, rs, qs, cs, rfl, hca, hrows, hok, hlen, hra, hrl, hrun, q⟩
  refine ⟨_, (pss_cons (ps_set (i := 2) sc_run.nd rfl (Or.inl rfl) (pe_callTy call_list_of rfl B.list_ (by decide +kernel) (pa_cons (pv 1) pa_nil)))
      (pss_cons (ps_set (i := 3) sc_run.nd rfl (Or.inl rfl) (pe_lst pa_nil))
      (pss_cons (ps_set (i := 4) sc_run.nd rfl (Or.inl rfl) pe_int)
      (pss_cons (ps_while PassesOwn.never (pt_cmpR op_lt (pv 4) (pe_callB call_len_seq rfl B.len_ PySem.boot_len (pa_cons (pv 0) pa_nil)) (nomark _)) (pss_cons (ps_set (i := 5) sc_run.nd rfl (Or.inl rfl) (pe_ix ix_tup (pv 0) (pv 4) (fun _ _ => rfl)))
      (pss_cons (ps_aug (i := 4) sc_run.nd rfl (Or.inl rfl) pe_int ip_add)
      (pss_one (ps_if (pt_cmpR op_eq (pe_ix ix_tup (pv 5) pe_int (fun _ _ => rfl)) pe_str (nomark _)) (pss_one (ps_aug (i := 4) sc_run.nd rfl (Or.inl rfl) (pe_ix ix_tup (pv 5) pe_int (fun _ _ => rfl)) ip_add)) (pss_one (ps_if (pt_cmpR op_eq (pe_ix ix_tup (pv 5) pe_int (fun _ _ => rfl)) pe_str (nomark _)) (pss_one (ps_if (pt_not (pt_val (pe_bm0 PySem.F.plainAttrs_list PySem.F.slot_list_pop PySem.F.type_list_pop mt_pop (pv 3)))) (pss_one (ps_aug (i := 4) sc_run.nd rfl (Or.inl rfl) (pe_ix ix_tup (pv 5) pe_int (fun _ _ => rfl)) ip_add)) pss_nil)) (pss_one (ps_expr (pc0 c_step hr (by decide) (pa_cons (pv 5) (pa_cons (pv 3) (pa_cons (pv 2) pa_nil)))))))))))))
      (pss_one (ps_ret (pe_callTy call_tuple_of rfl B.tuple_ (by decide +kernel) (pa_cons (pv 2) pa_nil)))))))), ?_⟩
  walk_at "K"
  walk_at "go2"
  refine ⟨ra, rs, rfl, .inr (SqT.of hra), fun vl hvl => ?_⟩
  walk_at "go2"
  rename_i sl hsl
  have lxs := hrows.length
  have hvl0 : H vl = none := hvl
  have hsl0 : H sl = none := free_of_upd hsl
  have hne : sl ≠ vl := fun z => by rw [z, upd_same] at hsl; cases hsl
  refine while_by (fun σ H' => ∃ (at_ : Nat) (st rs' : List V) (w5 : Option V), σ = [some (.ref ca), some (.ref ra), some (.ref vl), some (.ref sl), some (.int (at_ : Int)), w5] ∧ Gr no H H' ∧ H' sl = some (.lst st) ∧ H' vl = some (.lst rs') ∧ Run cs at_ st rs' qs ∧ st.length ≤ at_ ∧ rs'.length ≤ 100)
    (fun σ _ => muAt cs.length σ) ⟨0, [], rs, _, rfl, ((Gr.new hvl).trans (Gr.new hsl)), upd_same, by tb_rel, hrun, Nat.le_refl _, hrl⟩ ?_ ?_
  · rintro σ H' ⟨at_, st, rs', w5, rfl, g, h1, h2, hR, hst, hrl'⟩
    have hca' := g.tup _ _ hca
    walk_at "go2"
    refine ⟨ca, xs, rfl, .inr (SqT.of hca'), ?_⟩
    walk_at "go2"
    refine if_dec (fun c1 => ?_) (fun c1 => ?_)
    · cases hR with
      | done h => exact absurd h (by omega)
      | @step _ x _ _ st2 rs2 _ d hx hs hd hk =>
        obtain ⟨xv, hxv, ⟨b, rfl, hb⟩⟩ := Paired.get hrows hx
        have okx : InsOk x := hok x (List.mem_of_getElem? hx)
        have hb' := g.tup _ _ hb
        walk_at "go2"
        refine r_ixT hca' (atI_nat hxv) ?_
        walk_at "go2"
        rcases kind3 x with ⟨k, rfl⟩ | ⟨k, rfl⟩ | ⟨kn1, kn2, kn3, kn4⟩
        · obtain ⟨k0, k1⟩ := (show 0 ≤ k ∧ k ≤ 1000000000 from okx)
          have hb5 : H' b = some (.tup [.str "jump", .int k]) := hb'
          obtain ⟨rfl, rfl, rfl⟩ := stepV_jump hs rfl
          walk_at "go2"
          refine ⟨⟨at_ + 1 + d.toNat, _, _, some (.ref b), ?_, g, h1, h2, hk, by omega, hrl'⟩, ?_⟩
          · rw [show (at_ : Int) + 1 + d = ((at_ + 1 + d.toNat : Nat) : Int) by omega]; rfl
          · show cs.length - ((at_ : Int) + 1 + d).toNat < cs.length - ((at_ : Int)).toNat
            omega
        · obtain ⟨k0, k1⟩ := (show 0 ≤ k ∧ k ≤ 1000000000 from okx)
          have hb5 : H' b = some (.tup [.str "unless", .int k]) := hb'
          obtain ⟨bb, rfl, rfl, rfl⟩ := stepV_unless hs rfl
          · skip
            walk_at "go2"
            refine r_pop (s := st2) (v := .bl bb) h1 ?_
            walk_at "go2"
            have g5 : Gr no H (upd H' sl (.lst st2)) := Gr.own g hsl0
            have hb6 : (upd H' sl (.lst st2)) b = some (.tup [.str "unless", .int k]) := look_t hb5 h1
            have l1 : (st2 ++ [V.bl bb]).length = st2.length + 1 := by simp
            cases bb with
            | true =>
              walk_at "go2"
              refine ⟨⟨at_ + 1, _, _, some (.ref b), ?_, g5, upd_same, by tb_rel, hk, by omega, hrl'⟩, ?_⟩
              · rw [show (at_ : Int) + 1 = ((at_ + 1 : Nat) : Int) by omega]; rfl
              · show cs.length - ((at_ : Int) + 1).toNat < cs.length - ((at_ : Int)).toNat
                omega
            | false =>
              walk_at "go2"
              refine ⟨⟨at_ + 1 + k.toNat, _, _, some (.ref b), ?_, g5, upd_same, by tb_rel, hk, by omega, hrl'⟩, ?_⟩
              · rw [show (at_ : Int) + 1 + k = ((at_ + 1 + k.toNat : Nat) : Int) by omega]; rfl
              · show cs.length - ((at_ : Int) + 1 + k).toNat < cs.length - ((at_ : Int)).toNat
                omega
        · have hb5 : H' b = some (.tup (.str x.hd :: x.ops)) := by rw [← row_hd]; exact hb'
          have kn5 : ¬ x.hd = "unless" := fun e => by rw [e] at kn1; exact absurd kn1 (by decide +kernel)
          walk_at "go2"
          refine if_s (fun e => absurd e kn2) (fun _ => ?_)
          walk_at "go2"
          refine if_s (fun e => absurd e kn5) (fun _ => ?_)
          walk_at "go2"
          obtain ⟨d0, d1, d2⟩ := stepV_d hs kn3
          subst d0
          refine ⟨b, sl, vl, x, st, st2, rs', rs2, 0, rfl, hb', h1, h2, hne, okx, kn3, by omega, hs, fun H2 g2 e1 e2 => ?_⟩
          walk_at "go2"
          refine ⟨⟨at_ + 1, _, _, some (.ref b), ?_, Gr.own2 g g2 (fun l z => by rcases z with rfl | rfl <;> assumption), e1, e2, hk, by omega, by omega⟩, ?_⟩
          · rw [show (at_ : Int) + 1 = ((at_ + 1 : Nat) : Int) by omega]; rfl
          · show cs.length - ((at_ : Int) + 1).toNat < cs.length - ((at_ : Int)).toNat
            omega
    · cases hR with
      | done h =>
        walk_at "go2"
        refine ⟨vl, qs, rfl, .inl ⟨SqL.of h2, fun p hp => ?_⟩⟩
        exact q _ p (g.trans (Gr.new hp)) upd_same
      | step hx => exact absurd (List.getElem?_eq_some_iff.mp hx).1 (by omega)
  · intro σ H' Q1 Q2 hq hc
    obtain ⟨v, a1, u, a2, p, ys, a3, a4, i, j, a5, a6, k, a7, a8⟩ := hc
    exact ⟨v, a1, u, a2, p, ys, a3, a4, i, j, a5, a6, k, a7, hq _ _ a8⟩
end
end Snk
set_option Elab.async false
set_option linter.all false
set_option maxRecDepth 100000
set_option maxHeartbeats 4000000
namespace Snk
open PySem PySem.Spec PyProof.Rows L2 GxR GxT
local macro_rules | `(tactic| walk_at "K") => `(tactic| try simp only [ws_K, ws_P, ws_w, cx_K, cx_P, cx_w])
local macro_rules | `(tactic| walk_at "isi") => `(tactic| first
  | with_reducible refine r_isB (.base (.int _)) kk_int_int ?_ | with_reducible refine r_isB (.base (.int _)) kk_int_bool ?_ | with_reducible refine r_isB (.base (.int _)) kk_int_str ?_ | with_reducible refine r_isB (.base (.int _)) kk_int_tuple ?_ | with_reducible refine r_isB (.base (.bl _)) kk_bool_int ?_ | with_reducible refine r_isB (.base (.bl _)) kk_bool_bool ?_ | with_reducible refine r_isB (.base (.bl _)) kk_bool_str ?_ | with_reducible refine r_isB (.base (.bl _)) kk_bool_tuple ?_ | with_reducible refine r_isB (.base (.str _)) kk_str_int ?_ | with_reducible refine r_isB (.base (.str _)) kk_str_bool ?_ | with_reducible refine r_isB (.base (.str _)) kk_str_str ?_ | with_reducible refine r_isB (.base (.str _)) kk_str_tuple ?_ | with_reducible refine r_isB (.base .non) kk_NoneType_int ?_ | with_reducible refine r_isB (.base .non) kk_NoneType_bool ?_ | with_reducible refine r_isB (.base .non) kk_NoneType_str ?_ | with_reducible refine r_isB (.base .non) kk_NoneType_tuple ?_ | with_reducible refine r_isB (.base (.tup (by assumption))) kk_tuple_int ?_ | with_reducible refine r_isB (.base (.tup (by assumption))) kk_tuple_bool ?_ | with_reducible refine r_isB (.base (.tup (by assumption))) kk_tuple_str ?_ | with_reducible refine r_isB (.base (.tup (by assumption))) kk_tuple_tuple ?_)
local macro_rules | `(tactic| tb_rel) => `(tactic| first | assumption | exact upd_same | ((refine look_old ?hl ?hn); (case hn => assumption); (case hl => tb_rel)) | ((refine Gr.tup (by assumption) _ _ ?hl); (case hl => tb_rel)))
local macro_rules | `(tactic| tb_start) => `(tactic| first
  | ((with_reducible refine' r_var ?hvar ?_); (case hvar => exact rfl))
  | with_reducible refine r_c ?_ | with_reducible refine r_op ?_ | with_reducible refine r_un ?_ | with_reducible refine r_chain ?_ | with_reducible refine r_tup ?_ | with_reducible refine r_lst ?_ | with_reducible refine r_cons ?_ | with_reducible refine r_nil ?_ | with_reducible refine r_cb ?_ | with_reducible refine r_call ?_ | with_reducible refine r_bm ?_ | with_reducible refine r_bm0 ?_ | with_reducible refine r_sl ?_ | with_reducible refine r_test ?_ | with_reducible refine r_tb ?_ | with_reducible refine r_tand ?_ | with_reducible refine r_tor ?_ | with_reducible refine r_tnot ?_ | with_reducible refine r_andV ?_ | with_reducible refine r_orV ?_ | with_reducible refine r_notV ?_ | with_reducible refine r_ife ?_ | with_reducible refine s_seq ?_ | with_reducible refine s_nextM ?_ | with_reducible refine s_next ?_ | with_reducible refine s_ret ?_ | with_reducible refine s_if ?_ | with_reducible refine s_asg ?_ | with_reducible refine s_drop ?_ | with_reducible refine s_cont ?_ | with_reducible refine s_break ?_ | with_reducible refine g_name ?_ | with_reducible refine r_I0 ?_ | with_reducible refine r_U ?_ | with_reducible refine k_bl2 ?_ | with_reducible refine r_part ?_ | with_reducible refine r_nopart ?_ | with_reducible refine if_tt ?_ | with_reducible refine if_ff ?_ | with_reducible refine if_nf ?_ | with_reducible refine if_nt ?_
  | ((with_reducible refine' r_eq ?hsc ?_); (case hsc => exact rfl)) | ((with_reducible refine' r_ne ?hsc ?_); (case hsc => exact rfl)) | ((with_reducible refine isi_g ?_); walk_at "isi") | (first | ((with_reducible refine' r_ixT ?hix ?eix ?_); (case hix => tb_rel); (case eix => first | exact at0 | exact at1 | exact at2 | rfl))) | ((with_reducible refine' if_t ?hc ?_); (case hc => decide +kernel)) | ((with_reducible refine' if_f ?hc ?_); (case hc => decide +kernel)))
local macro_rules | `(tactic| walk_at "go") => `(tactic| repeat tb_start)
local macro_rules | `(tactic| walk_at "gr") => `(tactic| first | exact Gr.refl _ _ | assumption | ((refine Gr.trans ?ga (Gr.new ?gn)); (case gn => assumption); (case ga => walk_at "gr")) | ((refine' Gr.trans ?ga ?gb); (case gb => assumption); (case ga => walk_at "gr")))
local macro_rules | `(tactic| walk_at "go2") => `(tactic| repeat (first | tb_start | (((with_reducible refine' And.intro ?hz ?_); (case hz => (refine sz10 ?_; first | decide | (simp; done) | (simp; omega))); intro p hp)) | (first | ((with_reducible refine' r_inT ?hs ?hf ?ha ?_); (case hs => first | assumption | exact SqT.of (by tb_rel)); (case hf => rfl); (case ha => first | rfl | decide +kernel | exact flat_strs)) | ((with_reducible refine' r_niT ?hs ?hf ?ha ?_); (case hs => first | assumption | exact SqT.of (by tb_rel)); (case hf => rfl); (case ha => first | rfl | decide +kernel | exact flat_strs)))))
local macro_rules | `(tactic| tb_start) => `(tactic| with_reducible refine k_int ?_)
local macro_rules | `(tactic| tb_start) => `(tactic| ((with_reducible refine' And.intro (ty_lst ?ht) ?_); (case ht => tb_rel)))
local macro_rules | `(tactic| tb_start) => `(tactic| ((with_reducible refine' s_aug ?h1 ?_); (case h1 => exact rfl)))
local macro_rules | `(tactic| tb_start) => `(tactic| with_reducible refine r_ip ?_)
local macro_rules | `(tactic| tb_start) => `(tactic| with_reducible refine r_gsub ?_)
local macro_rules | `(tactic| tb_rel) => `(tactic| first | assumption | exact upd_same | ((with_reducible refine look_old ?hl ?hn); (case hn => assumption); (case hl => tb_rel)) | ((with_reducible refine' look_n ?h1 ?nn); (case nn => first | assumption | exact Ne.symm (by assumption)); (case h1 => tb_rel)) | ((with_reducible refine' look_t ?h1 ?h2); (case h2 => tb_rel); (case h1 => tb_rel)) | ((with_reducible refine' look_td ?h1 ?h2); (case h2 => tb_rel); (case h1 => tb_rel)) | ((with_reducible refine' look_ld ?h1 ?h2); (case h2 => tb_rel); (case h1 => tb_rel)) | ((refine Gr.tup (by assumption) _ _ ?hl); (case hl => tb_rel)))
section
variable {P : Program} {w : World} {K : PySem.W.Frag} {mg : Str → Option Value} {base : Heap} {CX : CXT}
/-- a promise about no call at all -/
theorem cal_no {x : Str} {i k : Nat} {ps : List Str} (D : DefAt K mg x i ps) : Cal P w K mg base CX k x ps (fun _ _ _ _ => False) := by
  obtain ⟨f, fd, F, m, b⟩ := D.ex
  exact ⟨f, fd, m, F.kp, b, ⟨fun _ _ _ _ h => h.elim, fun _ _ _ _ _ _ _ _ _ _ _ _ _ h => h.elim⟩⟩
/-! ### _law_eval -/
abbrev nm_law_eval : List Str := ["_law_schema_here", "_law_e", "_law_record_here", "_law_head", "_law_a", "_law_b", "_law_c"]
theorem sc_law_eval : FnScope nm_law_eval ["_law_schema_here", "_law_e", "_law_record_here"] (defScope (topS 57)) := ⟨rfl, rfl, rfl, by decide +kernel, rfl, by decide +kernel, by decide +kernel⟩
-- slots: 0:_law_schema_here 1:_law_e 2:_law_record_here 3:_law_head 4:_law_a 5:_law_b 6:_law_c
def spEval1 : Sp := fun vs H Q _ => ∃ (sv rv : V) (e : Addr) (hd : Str) (v : V), vs = [sv, .ref e, rv] ∧ H e = some (.tup [.str hd, v]) ∧ (hd = "int" ∨ hd = "flag" ∨ hd = "text") ∧ ∀ H', Gr no H H' → Q v H'
theorem c_eval1 (D : DefAt K mg "_law_eval" 57 ["_law_schema_here", "_law_e", "_law_record_here"]) (DA : DefAt K mg "_law_at" 54 ["_law_schema_here", "_law_name"]) (B : Blt mg) : Cal P w K mg base CX0 1 "_law_eval" ["_law_schema_here", "_law_e", "_law_record_here"] spEval1 := by
  have c_law_eval : Cal P w K mg base CX0 0 "_law_eval" ["_law_schema_here", "_law_e", "_law_record_here"] (fun _ _ _ _ => False) := cal_no D
  have c_law_at : Cal P w K mg base CX0 0 "_law_at" ["_law_schema_here", "_law_name"] (fun _ _ _ _ => False) := cal_no DA
  refine mk0 D sc_law_eval (fun vs H Q E h => by obtain ⟨_, _, _, _, _, rfl, _⟩ := h; rfl) ?_
  rintro X Q vs H E ⟨f, cdv, A, outer, s, H0, rfl⟩ hr ⟨sv, rv, e, hd, v, rfl, he, hh, q⟩
  refine ⟨_, (pss_cons (ps_set (i := 3) sc_law_eval.nd rfl (Or.inl rfl) (pe_ix ix_tup (pv 1) pe_int (fun _ _ => rfl)))
      (pss_cons (ps_if (pt_cmpR op_in_seq (pv 3) (pe_tup (pa_cons pe_str (pa_cons pe_str (pa_cons pe_str (pa_cons pe_str pa_nil))))) (by rfl)) (pss_one (ps_ret (pe_ix ix_tup (pv 1) pe_int (fun _ _ => rfl)))) pss_nil)
      (pss_cons (ps_if (pt_cmpR op_eq (pv 3) pe_str (nomark _)) (pss_one (ps_ret (pe_ix ix_list (pv 2) (pc0 c_law_at hr (by decide) (pa_cons (pv 0) (pa_cons (pe_ix ix_tup (pv 1) pe_int (fun _ _ => rfl)) pa_nil))) (fun _ _ => rfl)))) pss_nil)
      (pss_cons (ps_set (i := 4) sc_law_eval.nd rfl (Or.inl rfl) (pc0 c_law_eval hr (by decide) (pa_cons (pv 0) (pa_cons (pe_ix ix_tup (pv 1) pe_int (fun _ _ => rfl)) (pa_cons (pv 2) pa_nil)))))
      (pss_cons (ps_if (pt_cmpR op_eq (pv 3) pe_str (nomark _)) (pss_one (ps_ret (pe_not (pv 4)))) pss_nil)
      (pss_cons (ps_if (pt_cmpR op_eq (pv 3) pe_str (nomark _)) (pss_one (ps_ret (pe_op op_fdivN (pe_callTy call_int1 rfl B.int_ (by decide +kernel) (pa_cons (pv 4) pa_nil)) (pe_ix ix_tup (pv 1) pe_int (fun _ _ => rfl))))) pss_nil)
      (pss_cons (ps_if (pt_cmpR op_eq (pv 3) pe_str (nomark _)) (pss_one (ps_ret (pe_op op_modN (pe_callTy call_int1 rfl B.int_ (by decide +kernel) (pa_cons (pv 4) pa_nil)) (pe_ix ix_tup (pv 1) pe_int (fun _ _ => rfl))))) pss_nil)
      (pss_cons (ps_if (pt_cmpR op_eq (pv 3) pe_str (nomark _)) (pss_one (ps_ret (pe_slice sl_str (pv 4) po_none (po_some (pe_ix ix_tup (pv 1) pe_int (fun _ _ => rfl)))))) pss_nil)
      (pss_cons (ps_set (i := 5) sc_law_eval.nd rfl (Or.inl rfl) (pc0 c_law_eval hr (by decide) (pa_cons (pv 0) (pa_cons (pe_ix ix_tup (pv 1) pe_int (fun _ _ => rfl)) (pa_cons (pv 2) pa_nil)))))
      (pss_cons (ps_if (pt_cmpR op_eq (pv 3) pe_str (nomark _)) (pss_cons (ps_set (i := 6) sc_law_eval.nd rfl (Or.inl rfl) (pc0 c_law_eval hr (by decide) (pa_cons (pv 0) (pa_cons (pe_ix ix_tup (pv 1) pe_int (fun _ _ => rfl)) (pa_cons (pv 2) pa_nil)))))
      (pss_cons (ps_if (pt_val (pv 4)) (pss_one (ps_ret (pv 5))) pss_nil)
      (pss_one (ps_ret (pv 6))))) pss_nil)
      (pss_cons (ps_if (pt_cmpR op_eq (pv 3) pe_str (nomark _)) (pss_one (ps_ret (pe_op op_sub (pv 4) (pv 5)))) pss_nil)
      (pss_cons (ps_if (pt_cmpR op_eq (pv 3) pe_str (nomark _)) (pss_one (ps_ret (pe_op op_mul (pv 4) (pv 5)))) pss_nil)
      (pss_cons (ps_if (pt_cmpR op_eq (pv 3) pe_str (nomark _)) (pss_one (ps_ret (pe_callB (call_min2 rfl) rfl B.min_ (by decide +kernel) (pa_cons (pv 4) (pa_cons (pv 5) pa_nil))))) pss_nil)
      (pss_cons (ps_if (pt_cmpR op_eq (pv 3) pe_str (nomark _)) (pss_one (ps_ret (pe_callB (call_max2 rfl) rfl B.max_ (by decide +kernel) (pa_cons (pv 4) (pa_cons (pv 5) pa_nil))))) pss_nil)
      (pss_cons (ps_if (pt_cmpR op_eq (pv 3) pe_str (nomark _)) (pss_one (ps_ret (pe_cmpR op_lt (pv 4) (pv 5) (nomark _)))) pss_nil)
      (pss_cons (ps_if (pt_cmpR op_eq (pv 3) pe_str (nomark _)) (pss_one (ps_ret (pe_cmpR op_eq (pv 4) (pv 5) (nomark _)))) pss_nil)
      (pss_cons (ps_if (pt_cmpR op_eq (pv 3) pe_str (nomark _)) (pss_one (ps_ret (pe_and (pv 4) (pe_one (pv 5))))) pss_nil)
      (pss_cons (ps_if (pt_cmpR op_eq (pv 3) pe_str (nomark _)) (pss_one (ps_ret (pe_or (pv 4) (pe_one (pv 5))))) pss_nil)
      (pss_one (ps_ret (pe_op (OpR.or op_add op_add_str) (pv 4) (pv 5)))))))))))))))))))))), ?_⟩
  walk_at "K"
  rcases hh with rfl | rfl | rfl
  · walk_at "go2"
    exact q _ (by walk_at "gr")
  · walk_at "go2"
    exact q _ (by walk_at "gr")
  · walk_at "go2"
    exact q _ (by walk_at "gr")
def Leaf (H : Hp) (e : Addr) (v : V) : Prop := ∃ hd, H e = some (.tup [.str hd, v]) ∧ (hd = "int" ∨ hd = "flag" ∨ hd = "text")
def spEval2 : Sp := fun vs H Q _ => ∃ (sv rv : V) (e : Addr) (x : Ins) (ws : List V) (z : V), vs = [sv, .ref e, rv] ∧ OpV x ws z ∧
  ((∃ o a b e1 e2, x = .pair o ∧ ws = [a, b] ∧ H e = some (.tup [.str o.nm, .ref e1, .ref e2]) ∧ Leaf H e1 a ∧ Leaf H e2 b) ∨ ∃ a e1 nv, ws = [a] ∧ Head1 x x.hd nv ∧ H e = some (.tup [.str x.hd, .ref e1, nv]) ∧ Leaf H e1 a) ∧ ∀ H', Gr no H H' → Q z H'
theorem Leaf.gr {x : Addr → Prop} {H H' : Hp} {e : Addr} {v : V} (g : Gr x H H') (h : Leaf H e v) : Leaf H' e v := by
  obtain ⟨hd, h1, h2⟩ := h
  exact ⟨hd, g.tup _ _ h1, h2⟩
set_option maxHeartbeats 16000000 in
theorem c_eval2 (D : DefAt K mg "_law_eval" 57 ["_law_schema_here", "_law_e", "_law_record_here"]) (DA : DefAt K mg "_law_at" 54 ["_law_schema_here", "_law_name"]) (B : Blt mg) (c_law_eval : Cal P w K mg base CX0 1 "_law_eval" ["_law_schema_here", "_law_e", "_law_record_here"] spEval1) : Cal P w K mg base CX0 2 "_law_eval" ["_law_schema_here", "_law_e", "_law_record_here"] spEval2 := by
  have c_law_at : Cal P w K mg base CX0 0 "_law_at" ["_law_schema_here", "_law_name"] (fun _ _ _ _ => False) := cal_no DA
  refine mk0 D sc_law_eval (fun vs H Q E h => by obtain ⟨_, _, _, _, _, _, rfl, _⟩ := h; rfl) ?_
  rintro X Q vs H E ⟨f, cdv, A, outer, s, H0, rfl⟩ hr ⟨sv, rv, e, x, ws, z, rfl, hop, hsh, q⟩
  refine ⟨_, (pss_cons (ps_set (i := 3) sc_law_eval.nd rfl (Or.inl rfl) (pe_ix ix_tup (pv 1) pe_int (fun _ _ => rfl)))
      (pss_cons (ps_if (pt_cmpR op_in_seq (pv 3) (pe_tup (pa_cons pe_str (pa_cons pe_str (pa_cons pe_str (pa_cons pe_str pa_nil))))) (by rfl)) (pss_one (ps_ret (pe_ix ix_tup (pv 1) pe_int (fun _ _ => rfl)))) pss_nil)
      (pss_cons (ps_if (pt_cmpR op_eq (pv 3) pe_str (nomark _)) (pss_one (ps_ret (pe_ix ix_list (pv 2) (pc0 c_law_at hr (by decide) (pa_cons (pv 0) (pa_cons (pe_ix ix_tup (pv 1) pe_int (fun _ _ => rfl)) pa_nil))) (fun _ _ => rfl)))) pss_nil)
      (pss_cons (ps_set (i := 4) sc_law_eval.nd rfl (Or.inl rfl) (pc0 c_law_eval hr (by decide) (pa_cons (pv 0) (pa_cons (pe_ix ix_tup (pv 1) pe_int (fun _ _ => rfl)) (pa_cons (pv 2) pa_nil)))))
      (pss_cons (ps_if (pt_cmpR op_eq (pv 3) pe_str (nomark _)) (pss_one (ps_ret (pe_not (pv 4)))) pss_nil)
      (pss_cons (ps_if (pt_cmpR op_eq (pv 3) pe_str (nomark _)) (pss_one (ps_ret (pe_op op_fdivN (pe_callTy call_int1 rfl B.int_ (by decide +kernel) (pa_cons (pv 4) pa_nil)) (pe_ix ix_tup (pv 1) pe_int (fun _ _ => rfl))))) pss_nil)
      (pss_cons (ps_if (pt_cmpR op_eq (pv 3) pe_str (nomark _)) (pss_one (ps_ret (pe_op op_modN (pe_callTy call_int1 rfl B.int_ (by decide +kernel) (pa_cons (pv 4) pa_nil)) (pe_ix ix_tup (pv 1) pe_int (fun _ _ => rfl))))) pss_nil)
      (pss_cons (ps_if (pt_cmpR op_eq (pv 3) pe_str (nomark _)) (pss_one (ps_ret (pe_slice sl_str (pv 4) po_none (po_some (pe_ix ix_tup (pv 1) pe_int (fun _ _ => rfl)))))) pss_nil)
      (pss_cons (ps_set (i := 5) sc_law_eval.nd rfl (Or.inl rfl) (pc0 c_law_eval hr (by decide) (pa_cons (pv 0) (pa_cons (pe_ix ix_tup (pv 1) pe_int (fun _ _ => rfl)) (pa_cons (pv 2) pa_nil)))))
      (pss_cons (ps_if (pt_cmpR op_eq (pv 3) pe_str (nomark _)) (pss_cons (ps_set (i := 6) sc_law_eval.nd rfl (Or.inl rfl) (pc0 c_law_eval hr (by decide) (pa_cons (pv 0) (pa_cons (pe_ix ix_tup (pv 1) pe_int (fun _ _ => rfl)) (pa_cons (pv 2) pa_nil)))))
      (pss_cons (ps_if (pt_val (pv 4)) (pss_one (ps_ret (pv 5))) pss_nil)
      (pss_one (ps_ret (pv 6))))) pss_nil)
      (pss_cons (ps_if (pt_cmpR op_eq (pv 3) pe_str (nomark _)) (pss_one (ps_ret (pe_op op_sub (pv 4) (pv 5)))) pss_nil)
      (pss_cons (ps_if (pt_cmpR op_eq (pv 3) pe_str (nomark _)) (pss_one (ps_ret (pe_op op_mul (pv 4) (pv 5)))) pss_nil)
      (pss_cons (ps_if (pt_cmpR op_eq (pv 3) pe_str (nomark _)) (pss_one (ps_ret (pe_callB (call_min2 rfl) rfl B.min_ (by decide +kernel) (pa_cons (pv 4) (pa_cons (pv 5) pa_nil))))) pss_nil)
      (pss_cons (ps_if (pt_cmpR op_eq (pv 3) pe_str (nomark _)) (pss_one (ps_ret (pe_callB (call_max2 rfl) rfl B.max_ (by decide +kernel) (pa_cons (pv 4) (pa_cons (pv 5) pa_nil))))) pss_nil)
      (pss_cons (ps_if (pt_cmpR op_eq (pv 3) pe_str (nomark _)) (pss_one (ps_ret (pe_cmpR op_lt (pv 4) (pv 5) (nomark _)))) pss_nil)
      (pss_cons (ps_if (pt_cmpR op_eq (pv 3) pe_str (nomark _)) (pss_one (ps_ret (pe_cmpR op_eq (pv 4) (pv 5) (nomark _)))) pss_nil)
      (pss_cons (ps_if (pt_cmpR op_eq (pv 3) pe_str (nomark _)) (pss_one (ps_ret (pe_and (pv 4) (pe_one (pv 5))))) pss_nil)
      (pss_cons (ps_if (pt_cmpR op_eq (pv 3) pe_str (nomark _)) (pss_one (ps_ret (pe_or (pv 4) (pe_one (pv 5))))) pss_nil)
      (pss_one (ps_ret (pe_op (OpR.or op_add op_add_str) (pv 4) (pv 5)))))))))))))))))))))), ?_⟩
  walk_at "K"
  rcases hsh with ⟨o, a, b, e1, e2, rfl, rfl, he, hl1, hl2⟩ | ⟨a, e1, nv, rfl, h1, he, hl1⟩
  · cases hop with
    | pair hp =>
      cases hp with
      | add =>
        have he' : H e = some (.tup [.str "add", .ref e1, .ref e2]) := he
        walk_at "go2"
        obtain ⟨hd, h2, h3⟩ := hl1
        refine ⟨sv, rv, e1, hd, _, rfl, by tb_rel, h3, fun H1 g1 => ?_⟩
        have he1 : H1 e = some (.tup [.str "add", .ref e1, .ref e2]) := by tb_rel
        have hl2' : Leaf H1 e2 _ := hl2.gr (x := no) (by walk_at "gr")
        walk_at "go2"
        obtain ⟨hd2, h4, h5⟩ := hl2'
        refine ⟨sv, rv, e2, hd2, _, rfl, by tb_rel, h5, fun H2 g2 => ?_⟩
        walk_at "go2"
        exact .inl ⟨_, _, rfl, rfl, q _ (by walk_at "gr")⟩
      | sub =>
        have he' : H e = some (.tup [.str "sub", .ref e1, .ref e2]) := he
        walk_at "go2"
        obtain ⟨hd, h2, h3⟩ := hl1
        refine ⟨sv, rv, e1, hd, _, rfl, by tb_rel, h3, fun H1 g1 => ?_⟩
        have he1 : H1 e = some (.tup [.str "sub", .ref e1, .ref e2]) := by tb_rel
        have hl2' : Leaf H1 e2 _ := hl2.gr (x := no) (by walk_at "gr")
        walk_at "go2"
        obtain ⟨hd2, h4, h5⟩ := hl2'
        refine ⟨sv, rv, e2, hd2, _, rfl, by tb_rel, h5, fun H2 g2 => ?_⟩
        walk_at "go2"
        exact q _ (by walk_at "gr")
      | mul h =>
        have he' : H e = some (.tup [.str "mul", .ref e1, .ref e2]) := he
        walk_at "go2"
        obtain ⟨hd, h2, h3⟩ := hl1
        refine ⟨sv, rv, e1, hd, _, rfl, by tb_rel, h3, fun H1 g1 => ?_⟩
        have he1 : H1 e = some (.tup [.str "mul", .ref e1, .ref e2]) := by tb_rel
        have hl2' : Leaf H1 e2 _ := hl2.gr (x := no) (by walk_at "gr")
        walk_at "go2"
        obtain ⟨hd2, h4, h5⟩ := hl2'
        refine ⟨sv, rv, e2, hd2, _, rfl, by tb_rel, h5, fun H2 g2 => ?_⟩
        walk_at "go2"
        refine r_I (.inl ⟨by omega, by omega⟩) ?_
        exact q _ (by walk_at "gr")
      | mn =>
        have he' : H e = some (.tup [.str "min", .ref e1, .ref e2]) := he
        walk_at "go2"
        obtain ⟨hd, h2, h3⟩ := hl1
        refine ⟨sv, rv, e1, hd, _, rfl, by tb_rel, h3, fun H1 g1 => ?_⟩
        have he1 : H1 e = some (.tup [.str "min", .ref e1, .ref e2]) := by tb_rel
        have hl2' : Leaf H1 e2 _ := hl2.gr (x := no) (by walk_at "gr")
        walk_at "go2"
        obtain ⟨hd2, h4, h5⟩ := hl2'
        refine ⟨sv, rv, e2, hd2, _, rfl, by tb_rel, h5, fun H2 g2 => ?_⟩
        walk_at "go2"
        exact ⟨_, _, rfl, q _ (by walk_at "gr")⟩
      | mx =>
        have he' : H e = some (.tup [.str "max", .ref e1, .ref e2]) := he
        walk_at "go2"
        obtain ⟨hd, h2, h3⟩ := hl1
        refine ⟨sv, rv, e1, hd, _, rfl, by tb_rel, h3, fun H1 g1 => ?_⟩
        have he1 : H1 e = some (.tup [.str "max", .ref e1, .ref e2]) := by tb_rel
        have hl2' : Leaf H1 e2 _ := hl2.gr (x := no) (by walk_at "gr")
        walk_at "go2"
        obtain ⟨hd2, h4, h5⟩ := hl2'
        refine ⟨sv, rv, e2, hd2, _, rfl, by tb_rel, h5, fun H2 g2 => ?_⟩
        walk_at "go2"
        exact ⟨_, _, rfl, q _ (by walk_at "gr")⟩
      | less =>
        have he' : H e = some (.tup [.str "less", .ref e1, .ref e2]) := he
        walk_at "go2"
        obtain ⟨hd, h2, h3⟩ := hl1
        refine ⟨sv, rv, e1, hd, _, rfl, by tb_rel, h3, fun H1 g1 => ?_⟩
        have he1 : H1 e = some (.tup [.str "less", .ref e1, .ref e2]) := by tb_rel
        have hl2' : Leaf H1 e2 _ := hl2.gr (x := no) (by walk_at "gr")
        walk_at "go2"
        obtain ⟨hd2, h4, h5⟩ := hl2'
        refine ⟨sv, rv, e2, hd2, _, rfl, by tb_rel, h5, fun H2 g2 => ?_⟩
        walk_at "go2"
        exact q _ (by walk_at "gr")
      | same h =>
        have he' : H e = some (.tup [.str "same", .ref e1, .ref e2]) := he
        walk_at "go2"
        obtain ⟨hd, h2, h3⟩ := hl1
        refine ⟨sv, rv, e1, hd, _, rfl, by tb_rel, h3, fun H1 g1 => ?_⟩
        have he1 : H1 e = some (.tup [.str "same", .ref e1, .ref e2]) := by tb_rel
        have hl2' : Leaf H1 e2 _ := hl2.gr (x := no) (by walk_at "gr")
        walk_at "go2"
        obtain ⟨hd2, h4, h5⟩ := hl2'
        refine ⟨sv, rv, e2, hd2, _, rfl, by tb_rel, h5, fun H2 g2 => ?_⟩
        walk_at "go2"
        exact r_eq h (q _ (by walk_at "gr"))
      | @and_ x y =>
        have he' : H e = some (.tup [.str "and", .ref e1, .ref e2]) := he
        walk_at "go2"
        obtain ⟨hd, h2, h3⟩ := hl1
        refine ⟨sv, rv, e1, hd, _, rfl, by tb_rel, h3, fun H1 g1 => ?_⟩
        have he1 : H1 e = some (.tup [.str "and", .ref e1, .ref e2]) := by tb_rel
        have hl2' : Leaf H1 e2 _ := hl2.gr (x := no) (by walk_at "gr")
        walk_at "go2"
        obtain ⟨hd2, h4, h5⟩ := hl2'
        refine ⟨sv, rv, e2, hd2, _, rfl, by tb_rel, h5, fun H2 g2 => ?_⟩
        walk_at "go2"
        cases x with
        | true => walk_at "go2"; exact q _ (by walk_at "gr")
        | false => walk_at "go2"; exact q _ (by walk_at "gr")
      | @or_ x y =>
        have he' : H e = some (.tup [.str "or", .ref e1, .ref e2]) := he
        walk_at "go2"
        obtain ⟨hd, h2, h3⟩ := hl1
        refine ⟨sv, rv, e1, hd, _, rfl, by tb_rel, h3, fun H1 g1 => ?_⟩
        have he1 : H1 e = some (.tup [.str "or", .ref e1, .ref e2]) := by tb_rel
        have hl2' : Leaf H1 e2 _ := hl2.gr (x := no) (by walk_at "gr")
        walk_at "go2"
        obtain ⟨hd2, h4, h5⟩ := hl2'
        refine ⟨sv, rv, e2, hd2, _, rfl, by tb_rel, h5, fun H2 g2 => ?_⟩
        walk_at "go2"
        cases x with
        | true => walk_at "go2"; exact q _ (by walk_at "gr")
        | false => walk_at "go2"; exact q _ (by walk_at "gr")
      | join h =>
        have he' : H e = some (.tup [.str "join", .ref e1, .ref e2]) := he
        walk_at "go2"
        obtain ⟨hd, h2, h3⟩ := hl1
        refine ⟨sv, rv, e1, hd, _, rfl, by tb_rel, h3, fun H1 g1 => ?_⟩
        have he1 : H1 e = some (.tup [.str "join", .ref e1, .ref e2]) := by tb_rel
        have hl2' : Leaf H1 e2 _ := hl2.gr (x := no) (by walk_at "gr")
        walk_at "go2"
        obtain ⟨hd2, h4, h5⟩ := hl2'
        refine ⟨sv, rv, e2, hd2, _, rfl, by tb_rel, h5, fun H2 g2 => ?_⟩
        walk_at "go2"
        exact .inr ⟨_, _, rfl, rfl, sz10 (by omega), q _ (by walk_at "gr")⟩
  · cases h1 with
    | not =>
      cases hop with
      | not =>
        have he' : H e = some (.tup [.str "not", .ref e1, nv]) := he
        walk_at "go2"
        obtain ⟨hd, h2, h3⟩ := hl1
        refine ⟨sv, rv, e1, hd, _, rfl, by tb_rel, h3, fun H1 g1 => ?_⟩
        walk_at "go2"
        exact q _ (by walk_at "gr")
    | div =>
      cases hop with
      | div h =>
        rename_i n i
        have he' : H e = some (.tup [.str "div", .ref e1, .int n]) := he
        walk_at "go2"
        obtain ⟨hd, h2, h3⟩ := hl1
        refine ⟨sv, rv, e1, hd, _, rfl, by tb_rel, h3, fun H1 g1 => ?_⟩
        have he1 : H1 e = some (.tup [.str "div", .ref e1, .int n]) := by tb_rel
        walk_at "go2"
        refine .inl ⟨_, rfl, ?_⟩
        walk_at "go2"
        refine r_I ⟨by omega, by omega⟩ ?_
        exact q _ (by walk_at "gr")
    | mod =>
      cases hop with
      | mod h =>
        rename_i n i
        have he' : H e = some (.tup [.str "mod", .ref e1, .int n]) := he
        walk_at "go2"
        obtain ⟨hd, h2, h3⟩ := hl1
        refine ⟨sv, rv, e1, hd, _, rfl, by tb_rel, h3, fun H1 g1 => ?_⟩
        have he1 : H1 e = some (.tup [.str "mod", .ref e1, .int n]) := by tb_rel
        walk_at "go2"
        refine .inl ⟨_, rfl, ?_⟩
        walk_at "go2"
        refine r_I (by omega) ?_
        exact q _ (by walk_at "gr")
    | cut =>
      cases hop with
      | cut h h0 =>
        rename_i n s
        have he' : H e = some (.tup [.str "cut", .ref e1, .int n]) := he
        walk_at "go2"
        obtain ⟨hd, h2, h3⟩ := hl1
        refine ⟨sv, rv, e1, hd, _, rfl, by tb_rel, h3, fun H1 g1 => ?_⟩
        have he1 : H1 e = some (.tup [.str "cut", .ref e1, .int n]) := by tb_rel
        walk_at "go2"
        exact ⟨_, rfl, sz10 (by omega), q _ (by walk_at "gr")⟩
end
end Snk
set_option Elab.async false
set_option linter.all false
set_option maxRecDepth 100000
set_option maxHeartbeats 4000000
namespace Snk
open PySem PySem.Spec PyProof.Rows L2 GxR GxT
local macro_rules | `(tactic| walk_at "K") => `(tactic| try simp only [ws_K, ws_P, ws_w, cx_K, cx_P, cx_w])
local macro_rules | `(tactic| walk_at "isi") => `(tactic| first
  | with_reducible refine r_isB (.base (.int _)) kk_int_int ?_ | with_reducible refine r_isB (.base (.int _)) kk_int_bool ?_ | with_reducible refine r_isB (.base (.int _)) kk_int_str ?_ | with_reducible refine r_isB (.base (.int _)) kk_int_tuple ?_ | with_reducible refine r_isB (.base (.bl _)) kk_bool_int ?_ | with_reducible refine r_isB (.base (.bl _)) kk_bool_bool ?_ | with_reducible refine r_isB (.base (.bl _)) kk_bool_str ?_ | with_reducible refine r_isB (.base (.bl _)) kk_bool_tuple ?_ | with_reducible refine r_isB (.base (.str _)) kk_str_int ?_ | with_reducible refine r_isB (.base (.str _)) kk_str_bool ?_ | with_reducible refine r_isB (.base (.str _)) kk_str_str ?_ | with_reducible refine r_isB (.base (.str _)) kk_str_tuple ?_ | with_reducible refine r_isB (.base .non) kk_NoneType_int ?_ | with_reducible refine r_isB (.base .non) kk_NoneType_bool ?_ | with_reducible refine r_isB (.base .non) kk_NoneType_str ?_ | with_reducible refine r_isB (.base .non) kk_NoneType_tuple ?_ | with_reducible refine r_isB (.base (.tup (by assumption))) kk_tuple_int ?_ | with_reducible refine r_isB (.base (.tup (by assumption))) kk_tuple_bool ?_ | with_reducible refine r_isB (.base (.tup (by assumption))) kk_tuple_str ?_ | with_reducible refine r_isB (.base (.tup (by assumption))) kk_tuple_tuple ?_)
local macro_rules | `(tactic| tb_rel) => `(tactic| first | assumption | exact upd_same | ((refine look_old ?hl ?hn); (case hn => assumption); (case hl => tb_rel)) | ((refine Gr.tup (by assumption) _ _ ?hl); (case hl => tb_rel)))
local macro_rules | `(tactic| tb_start) => `(tactic| first
  | ((with_reducible refine' r_var ?hvar ?_); (case hvar => exact rfl))
  | with_reducible refine r_c ?_ | with_reducible refine r_op ?_ | with_reducible refine r_un ?_ | with_reducible refine r_chain ?_ | with_reducible refine r_tup ?_ | with_reducible refine r_lst ?_ | with_reducible refine r_cons ?_ | with_reducible refine r_nil ?_ | with_reducible refine r_cb ?_ | with_reducible refine r_call ?_ | with_reducible refine r_bm ?_ | with_reducible refine r_bm0 ?_ | with_reducible refine r_sl ?_ | with_reducible refine r_test ?_ | with_reducible refine r_tb ?_ | with_reducible refine r_tand ?_ | with_reducible refine r_tor ?_ | with_reducible refine r_tnot ?_ | with_reducible refine r_andV ?_ | with_reducible refine r_orV ?_ | with_reducible refine r_notV ?_ | with_reducible refine r_ife ?_ | with_reducible refine s_seq ?_ | with_reducible refine s_nextM ?_ | with_reducible refine s_next ?_ | with_reducible refine s_ret ?_ | with_reducible refine s_if ?_ | with_reducible refine s_asg ?_ | with_reducible refine s_drop ?_ | with_reducible refine s_cont ?_ | with_reducible refine s_break ?_ | with_reducible refine g_name ?_ | with_reducible refine r_I0 ?_ | with_reducible refine r_U ?_ | with_reducible refine k_bl2 ?_ | with_reducible refine r_part ?_ | with_reducible refine r_nopart ?_ | with_reducible refine if_tt ?_ | with_reducible refine if_ff ?_ | with_reducible refine if_nf ?_ | with_reducible refine if_nt ?_
  | ((with_reducible refine' r_eq ?hsc ?_); (case hsc => exact rfl)) | ((with_reducible refine' r_ne ?hsc ?_); (case hsc => exact rfl)) | ((with_reducible refine isi_g ?_); walk_at "isi") | (first | ((with_reducible refine' r_ixT ?hix ?eix ?_); (case hix => tb_rel); (case eix => first | exact at0 | exact at1 | exact at2 | rfl))) | ((with_reducible refine' if_t ?hc ?_); (case hc => decide +kernel)) | ((with_reducible refine' if_f ?hc ?_); (case hc => decide +kernel)))
local macro_rules | `(tactic| walk_at "go") => `(tactic| repeat tb_start)
local macro_rules | `(tactic| walk_at "gr") => `(tactic| first | exact Gr.refl _ _ | assumption | ((refine Gr.trans ?ga (Gr.new ?gn)); (case gn => assumption); (case ga => walk_at "gr")) | ((refine' Gr.trans ?ga ?gb); (case gb => assumption); (case ga => walk_at "gr")))
local macro_rules | `(tactic| walk_at "go2") => `(tactic| repeat (first | tb_start | (((with_reducible refine' And.intro ?hz ?_); (case hz => (refine sz10 ?_; first | decide | (simp; done) | (simp; omega))); intro p hp)) | (first | ((with_reducible refine' r_inT ?hs ?hf ?ha ?_); (case hs => first | assumption | exact SqT.of (by tb_rel)); (case hf => rfl); (case ha => first | rfl | decide +kernel | exact flat_strs)) | ((with_reducible refine' r_niT ?hs ?hf ?ha ?_); (case hs => first | assumption | exact SqT.of (by tb_rel)); (case hf => rfl); (case ha => first | rfl | decide +kernel | exact flat_strs)))))
local macro_rules | `(tactic| tb_start) => `(tactic| with_reducible refine k_int ?_)
local macro_rules | `(tactic| tb_start) => `(tactic| ((with_reducible refine' And.intro (ty_lst ?ht) ?_); (case ht => tb_rel)))
local macro_rules | `(tactic| tb_start) => `(tactic| ((with_reducible refine' s_aug ?h1 ?_); (case h1 => exact rfl)))
local macro_rules | `(tactic| tb_start) => `(tactic| with_reducible refine r_ip ?_)
local macro_rules | `(tactic| tb_start) => `(tactic| with_reducible refine r_gsub ?_)
local macro_rules | `(tactic| tb_rel) => `(tactic| first | assumption | exact upd_same | ((with_reducible refine look_old ?hl ?hn); (case hn => assumption); (case hl => tb_rel)) | ((with_reducible refine' look_n ?h1 ?nn); (case nn => first | assumption | exact Ne.symm (by assumption)); (case h1 => tb_rel)) | ((with_reducible refine' look_t ?h1 ?h2); (case h2 => tb_rel); (case h1 => tb_rel)) | ((with_reducible refine' look_td ?h1 ?h2); (case h2 => tb_rel); (case h1 => tb_rel)) | ((with_reducible refine' look_ld ?h1 ?h2); (case h2 => tb_rel); (case h1 => tb_rel)) | ((refine Gr.tup (by assumption) _ _ ?hl); (case hl => tb_rel)))
section
variable {P : Program} {w : World} {K : PySem.W.Frag} {mg : Str → Option Value} {base : Heap} {CX : CXT}
/-! ### _law_machine -/
abbrev nm_law_machine : List Str := ["_law_schema_here", "_law_code_here", "_law_record_here", "_law_values", "_law_stack", "_law_at_here", "_law_turn", "_law_row", "_law_names", "_law_operand", "_law_second", "_law_first"]
theorem sc_law_machine : FnScope nm_law_machine ["_law_schema_here", "_law_code_here", "_law_record_here"] (defScope (topS 61)) := ⟨rfl, rfl, rfl, by decide +kernel, rfl, by decide +kernel, by decide +kernel⟩
-- slots: 0:_law_schema_here 1:_law_code_here 2:_law_record_here 3:_law_values 4:_law_stack 5:_law_at_here 6:_law_turn 7:_law_row 8:_law_names 9:_law_operand 10:_law_second 11:_law_first
def spMachine : Sp := fun vs H Q _ => ∃ (sv : V) (ca ra : Addr) (xs rs q : List V) (cs : List Ins), vs = [sv, .ref ca, .ref ra] ∧ H ca = some (.tup xs) ∧ Paired (InsV H) xs cs ∧ (∀ x ∈ cs, InsOk x) ∧ cs.length ≤ 400 ∧ H ra = some (.tup rs) ∧ rs.length ≤ 100 ∧ Run cs 0 [] rs q ∧
  ∀ H' p, Gr no H H' → H' p = some (.tup q) → Q (.ref p) H'
theorem r_isb {a b : Bool} {H : Hp} {Q : VK} (q : Q (.bl (decide (a = b))) H) : rIsB (.bl a) (.bl b) H Q := ⟨a, b, rfl, rfl, q⟩
theorem nm_op1 (o : POp) : inV (.str o.nm) [.str "not", .str "div", .str "mod", .str "cut"] = false := by cases o <;> decide +kernel
set_option maxHeartbeats 16000000 in
theorem c_law_machine (D : DefAt K mg "_law_machine" 61 ["_law_schema_here", "_law_code_here", "_law_record_here"]) (B : Blt mg) (c_law_eval : Cal P w K mg base CX0 2 "_law_eval" ["_law_schema_here", "_law_e", "_law_record_here"] spEval2) : Cal P w K mg base CX0 3 "_law_machine" ["_law_schema_here", "_law_code_here", "_law_record_here"] spMachine := by
  refine mk0 D sc_law_machine (fun vs H Q E h => by obtain ⟨_, _, _, _, _, _, _, rfl, _⟩ := h; rfl) ?_
  rintro X Q vs H E ⟨f, cdv, A, outer, s, H0, rfl⟩ hr ⟨sv, ca, ra, xs, rs, qs, cs, rfl, hca, hrows, hok, hlen, hra, hrl, hrun, q⟩
  have hu := hu_of hr
  refine ⟨_, (pss_cons (ps_set (i := 3) sc_law_machine.nd rfl (Or.inl rfl) (pe_callTy call_list_of rfl B.list_ (by decide +kernel) (pa_cons (pv 2) pa_nil)))
      (pss_cons (ps_set (i := 4) sc_law_machine.nd rfl (Or.inl rfl) (pe_lst pa_nil))
      (pss_cons (ps_set (i := 5) sc_law_machine.nd rfl (Or.inl rfl) pe_int)
      (pss_cons (ps_for PassesOwn.never rfl (pi_range1 rfl B.range_ (pa_cons (pe_callB call_len_seq rfl B.len_ PySem.boot_len (pa_cons (pv 1) pa_nil)) pa_nil)) (pg_name (i := 6) sc_law_machine.nd rfl (Or.inl rfl)) (pss_cons (ps_if (pt_cmpR op_ge (pv 5) (pe_callB call_len_seq rfl B.len_ PySem.boot_len (pa_cons (pv 1) pa_nil)) (nomark _)) (pss_one ps_break) pss_nil)
      (pss_cons (ps_set (i := 7) sc_law_machine.nd rfl (Or.inl rfl) (pe_ix ix_tup (pv 1) (pv 5) (fun _ _ => rfl)))
      (pss_cons (ps_aug (i := 5) sc_law_machine.nd rfl (Or.inl rfl) pe_int ip_add)
      (pss_one (ps_if (pt_cmpR op_eq (pe_ix ix_tup (pv 7) pe_int (fun _ _ => rfl)) pe_str (nomark _)) (pss_one (ps_aug (i := 5) sc_law_machine.nd rfl (Or.inl rfl) (pe_ix ix_tup (pv 7) pe_int (fun _ _ => rfl)) ip_add)) (pss_one (ps_if (pt_cmpR op_eq (pe_ix ix_tup (pv 7) pe_int (fun _ _ => rfl)) pe_str (nomark _)) (pss_one (ps_if (pt_cmpR op_isBl (pe_bm0 PySem.F.plainAttrs_list PySem.F.slot_list_pop PySem.F.type_list_pop mt_pop (pv 4)) pe_bl (nomark _)) (pss_one (ps_aug (i := 5) sc_law_machine.nd rfl (Or.inl rfl) (pe_ix ix_tup (pv 7) pe_int (fun _ _ => rfl)) ip_add)) pss_nil)) (pss_one (ps_if (pt_cmpR op_in_seq (pe_ix ix_tup (pv 7) pe_int (fun _ _ => rfl)) (pe_tup (pa_cons pe_str (pa_cons pe_str pa_nil))) (by rfl)) (pss_one (ps_expr (pe_bm PySem.F.plainAttrs_list PySem.F.slot_list_append PySem.F.type_list_append mt_append (pv 4) (pa_cons (pe_ix ix_tup (pv 7) pe_int (fun _ _ => rfl)) pa_nil)))) (pss_one (ps_if (pt_cmpR op_eq (pe_ix ix_tup (pv 7) pe_int (fun _ _ => rfl)) pe_str (nomark _)) (pss_one (ps_expr (pe_bm PySem.F.plainAttrs_list PySem.F.slot_list_append PySem.F.type_list_append mt_append (pv 4) (pa_cons (pe_ix ix_list (pv 3) (pe_ix ix_tup (pv 7) pe_int (fun _ _ => rfl)) (fun _ _ => rfl)) pa_nil)))) (pss_one (ps_if (pt_cmpR op_eq (pe_ix ix_tup (pv 7) pe_int (fun _ _ => rfl)) pe_str (nomark _)) (pss_one (ps_asg (pe_bm0 PySem.F.plainAttrs_list PySem.F.slot_list_pop PySem.F.type_list_pop mt_pop (pv 4)) (pg_sub (pv 3) (pe_ix ix_tup (pv 7) pe_int (fun _ _ => rfl)) set_list))) (pss_one (ps_if (pt_cmpR op_in_seq (pe_ix ix_tup (pv 7) pe_int (fun _ _ => rfl)) (pe_tup (pa_cons pe_str (pa_cons pe_str (pa_cons pe_str (pa_cons pe_str pa_nil))))) (by rfl)) (pss_cons (ps_set (i := 8) sc_law_machine.nd rfl (Or.inl rfl) (pe_disp (pps_cons pe_str pe_str (pps_cons pe_str pe_str (pps_cons pe_str pe_str (pps_cons pe_str pe_str pps_nil)))) (by rfl) (by rfl) (fun z => by cases z) (by decide)))
      (pss_cons (ps_set (i := 9) sc_law_machine.nd rfl (Or.inl rfl) (pe_tup (pa_cons (pe_dget hu (pv 8) (pe_ix ix_tup (pv 7) pe_int (fun _ _ => rfl)) (fun _ _ => rfl)) (pa_cons (pe_bm0 PySem.F.plainAttrs_list PySem.F.slot_list_pop PySem.F.type_list_pop mt_pop (pv 4)) pa_nil))))
      (pss_one (ps_expr (pe_bm PySem.F.plainAttrs_list PySem.F.slot_list_append PySem.F.type_list_append mt_append (pv 4) (pa_cons (pc0 c_law_eval hr (by decide) (pa_cons (pv 0) (pa_cons (pe_tup (pa_cons (pe_ix ix_tup (pv 7) pe_int (fun _ _ => rfl)) (pa_cons (pv 9) (pa_cons (pe_ix ix_tup (pv 7) (pe_un un_neg pe_int) (fun _ _ => rfl)) pa_nil)))) (pa_cons (pv 3) pa_nil)))) pa_nil)))))) (pss_one (ps_if (pt_cmpR op_eq (pe_ix ix_tup (pv 7) pe_int (fun _ _ => rfl)) pe_str (nomark _)) (pss_cons (ps_set (i := 10) sc_law_machine.nd rfl (Or.inl rfl) (pe_bm0 PySem.F.plainAttrs_list PySem.F.slot_list_pop PySem.F.type_list_pop mt_pop (pv 4)))
      (pss_cons (ps_set (i := 11) sc_law_machine.nd rfl (Or.inl rfl) (pe_bm0 PySem.F.plainAttrs_list PySem.F.slot_list_pop PySem.F.type_list_pop mt_pop (pv 4)))
      (pss_cons (ps_if (pt_val (pe_bm0 PySem.F.plainAttrs_list PySem.F.slot_list_pop PySem.F.type_list_pop mt_pop (pv 4))) (pss_one (ps_set (i := 10) sc_law_machine.nd rfl (Or.inl rfl) (pv 11))) pss_nil)
      (pss_one (ps_expr (pe_bm PySem.F.plainAttrs_list PySem.F.slot_list_append PySem.F.type_list_append mt_append (pv 4) (pa_cons (pv 10) pa_nil))))))) (pss_cons (ps_set (i := 10) sc_law_machine.nd rfl (Or.inl rfl) (pe_bm0 PySem.F.plainAttrs_list PySem.F.slot_list_pop PySem.F.type_list_pop mt_pop (pv 4)))
      (pss_cons (ps_set (i := 11) sc_law_machine.nd rfl (Or.inl rfl) (pe_bm0 PySem.F.plainAttrs_list PySem.F.slot_list_pop PySem.F.type_list_pop mt_pop (pv 4)))
      (pss_one (ps_expr (pe_bm PySem.F.plainAttrs_list PySem.F.slot_list_append PySem.F.type_list_append mt_append (pv 4) (pa_cons (pc0 c_law_eval hr (by decide) (pa_cons (pv 0) (pa_cons (pe_tup (pa_cons (pe_ix ix_tup (pv 7) pe_int (fun _ _ => rfl)) (pa_cons (pe_tup (pa_cons pe_str (pa_cons (pv 11) pa_nil))) (pa_cons (pe_tup (pa_cons pe_str (pa_cons (pv 10) pa_nil))) pa_nil)))) (pa_cons (pv 3) pa_nil)))) pa_nil))))))))))))))))))))))))
      (pss_one (ps_ret (pe_callTy call_tuple_of rfl B.tuple_ (by decide +kernel) (pa_cons (pv 3) pa_nil)))))))), ?_⟩
  walk_at "K"
  walk_at "go2"
  refine ⟨ra, rs, rfl, .inr (SqT.of hra), fun vl hvl => ?_⟩
  walk_at "go2"
  rename_i sl hsl
  have lxs := hrows.length
  have hvl0 : H vl = none := hvl
  have hsl0 : H sl = none := free_of_upd hsl
  have hne : sl ≠ vl := fun z => by rw [z, upd_same] at hsl; cases hsl
  refine s_for (i_rng ?_)
  walk_at "go2"
  refine ⟨ca, xs, rfl, .inr (SqT.of (by tb_rel)), ?_⟩
  refine ⟨_, rfl, by omega, by omega, ?_⟩
  rw [Int.toNat_natCast]
  refine for_range (fun j σ H' => ∃ (at_ : Nat) (st rs' : List V) (w6 w7 w8 w9 w10 w11 : Option V), σ = [some sv, some (.ref ca), some (.ref ra), some (.ref vl), some (.ref sl), some (.int (at_ : Int)), w6, w7, w8, w9, w10, w11] ∧ Gr no H H' ∧ H' sl = some (.lst st) ∧ H' vl = some (.lst rs') ∧ Run cs at_ st rs' qs ∧ st.length ≤ at_ ∧ rs'.length ≤ 100 ∧ j ≤ at_)
    ⟨0, [], rs, _, _, _, _, _, _, rfl, ((Gr.new hvl).trans (Gr.new hsl)), upd_same, by tb_rel, hrun, Nat.le_refl _, hrl, Nat.le_refl _⟩ ?_ ?_
  · rintro j σ H' hj ⟨at_, st, rs', w6, w7, w8, w9, w10, w11, rfl, g, h1, h2, hR, hst, hrl', hja⟩
    have hca' := g.tup _ _ hca
    walk_at "go2"
    refine ⟨ca, xs, rfl, .inr (SqT.of hca'), ?_⟩
    walk_at "go2"
    refine if_dec (fun c1 => ?_) (fun c1 => ?_)
    · cases hR with
      | done h =>
        walk_at "go2"
        refine ⟨vl, qs, rfl, .inl ⟨SqL.of h2, fun p hp => ?_⟩⟩
        exact q _ p (g.trans (Gr.new hp)) upd_same
      | step hx => exact absurd (List.getElem?_eq_some_iff.mp hx).1 (by omega)
    · cases hR with
      | done h => exact absurd h (by omega)
      | @step _ x _ _ st2 rs2 _ d hx hs hd hk =>
        obtain ⟨xv, hxv, ⟨b, rfl, hb⟩⟩ := Paired.get hrows hx
        have okx : InsOk x := hok x (List.mem_of_getElem? hx)
        have hb' := g.tup _ _ hb
        walk_at "go2"
        refine r_ixT hca' (atI_nat hxv) ?_
        walk_at "go2"
        have e1 : (at_ : Int) + 1 = ((at_ + 1 : Nat) : Int) := by omega
        rw [e1]
        cases hs with
        | push =>
          rename_i v
          have ha' : H' b = some (.tup [.str "push", v]) := hb'
          walk_at "go2"
          refine r_app (xs := st) (by tb_rel) (by omega) ?_
          exact ⟨at_ + 1, _, _, _, _, _, _, _, _, rfl, Gr.own (g.trans (Gr.new (by assumption))) hsl0, upd_same, look_n (by tb_rel) (Ne.symm hne), hk, by simp; omega, hrl', by omega⟩
        | word =>
          rename_i z
          have ha' : H' b = some (.tup [.str "word", .str z]) := hb'
          walk_at "go2"
          refine r_app (xs := st) (by tb_rel) (by omega) ?_
          exact ⟨at_ + 1, _, _, _, _, _, _, _, _, rfl, Gr.own (g.trans (Gr.new (by assumption))) hsl0, upd_same, look_n (by tb_rel) (Ne.symm hne), hk, by simp; omega, hrl', by omega⟩
        | @load i v s r h0 hi =>
          have ha' : H' b = some (.tup [.str "load", .int i]) := hb'
          walk_at "go2"
          refine r_ixL (by tb_rel) (at_k h0 hi) ?_
          walk_at "go2"
          refine r_app (xs := st) (by tb_rel) (by omega) ?_
          exact ⟨at_ + 1, _, _, _, _, _, _, _, _, rfl, Gr.own (g.trans (Gr.new (by assumption))) hsl0, upd_same, look_n (by tb_rel) (Ne.symm hne), hk, by simp; omega, hrl', by omega⟩
        | @store i v s r h0 hi =>
          have ha' : H' b = some (.tup [.str "store", .int i]) := hb'
          have l1 : (st2 ++ [v]).length = st2.length + 1 := by simp
          walk_at "go2"
          refine r_pop (s := st2) (by tb_rel) ?_
          walk_at "go2"
          refine r_setL (xs := rs') (by tb_rel) h0 hi ?_
          refine ⟨at_ + 1, _, _, _, _, _, _, _, _, rfl, Gr.own (Gr.own (g.trans (Gr.new (by assumption))) hsl0) hvl0, look_n upd_same hne, upd_same, hk, by omega, by simpa using hrl', by omega⟩
        | jump =>
          obtain ⟨k0, k1⟩ := (show 0 ≤ d ∧ d ≤ 1000000000 from okx)
          have hb5 : H' b = some (.tup [.str "jump", .int d]) := hb'
          walk_at "go2"
          refine ⟨at_ + 1 + d.toNat, _, _, some (.int (0 + (j : Int))), some (.ref b), w8, w9, w10, w11, ?_, g, h1, h2, hk, by omega, hrl', by omega⟩
          rw [show ((at_ + 1 : Nat) : Int) + d = ((at_ + 1 + d.toNat : Nat) : Int) by omega]; rfl
        | @«unless» k bb s r =>
          obtain ⟨k0, k1⟩ := (show 0 ≤ k ∧ k ≤ 1000000000 from okx)
          have hb5 : H' b = some (.tup [.str "unless", .int k]) := hb'
          have l1 : (st2 ++ [V.bl bb]).length = st2.length + 1 := by simp
          walk_at "go2"
          refine r_pop (s := st2) (v := .bl bb) h1 ?_
          walk_at "go2"
          refine r_isb ?_
          have g5 : Gr no H (upd H' sl (.lst st2)) := Gr.own g hsl0
          have hb6 : (upd H' sl (.lst st2)) b = some (.tup [.str "unless", .int k]) := look_t hb5 h1
          cases bb with
          | true =>
            walk_at "go2"
            exact ⟨at_ + 1, _, _, _, _, _, _, _, _, rfl, g5, upd_same, by tb_rel, hk, by omega, hrl', by omega⟩
          | false =>
            walk_at "go2"
            refine ⟨at_ + 1 + k.toNat, _, _, some (.int (0 + (j : Int))), some (.ref b), w8, w9, w10, w11, ?_, g5, upd_same, by tb_rel, hk, by omega, hrl', by omega⟩
            rw [show ((at_ + 1 : Nat) : Int) + k = ((at_ + 1 + k.toNat : Nat) : Int) by omega]; rfl
        | @op x vs s r z h =>
          cases h with
          | @pair o a1 b1 c1 hp =>
            have ha' : H' b = some (.tup [.str o.nm]) := hb'
            have hs' : H' sl = some (.lst ((s ++ [a1]) ++ [b1])) := by rw [h1]; simp
            have l1 : (s ++ [a1, b1]).length = s.length + 2 := by simp
            walk_at "go2"
            refine if_s (fun e => absurd e (nm_no o (by simp))) (fun _ => ?_)
            walk_at "go2"
            refine if_s (fun e => absurd e (nm_no o (by simp))) (fun _ => ?_)
            walk_at "go2"
            refine if_f (nm_pw o) ?_
            walk_at "go2"
            refine if_s (fun e => absurd e (nm_no o (by simp))) (fun _ => ?_)
            walk_at "go2"
            refine if_s (fun e => absurd e (nm_no o (by simp))) (fun _ => ?_)
            walk_at "go2"
            refine if_f (nm_op1 o) ?_
            walk_at "go2"
            refine if_s (fun e => absurd e (nm_ne o)) (fun _ => ?_)
            walk_at "go2"
            refine r_pop (s := s ++ [a1]) (v := b1) (by tb_rel) ?_
            walk_at "go2"
            refine r_pop (s := s) (v := a1) upd_same ?_
            walk_at "go2"
            refine ⟨sv, .ref vl, _, .pair o, [a1, b1], z, rfl, .pair hp, .inl ⟨o, a1, b1, _, _, rfl, rfl, upd_same, ⟨"int", by tb_rel, .inl rfl⟩, ⟨"int", by tb_rel, .inl rfl⟩⟩, fun H3 g3 => ?_⟩
            have hs3 := g3.lst (xs := s) (l := sl) (by tb_rel) id
            have hv3 := g3.lst (xs := rs') (l := vl) (by tb_rel) id
            walk_at "go2"
            refine r_app (xs := s) hs3 (by omega) ?_
            exact ⟨at_ + 1, _, _, _, _, _, _, _, _, rfl, Gr.own (Gr.trans (Gr.trans (Gr.trans (Gr.trans (Gr.own (Gr.own (by walk_at "gr") hsl0) hsl0) (Gr.new (by assumption))) (Gr.new (by assumption))) (Gr.new (by assumption))) g3) hsl0, upd_same, look_n hv3 (Ne.symm hne), hk, by simp; omega, hrl', by omega⟩
          | @pick c a1 b1 =>
            have ha' : H' b = some (.tup [.str "pick"]) := hb'
            have hs' : H' sl = some (.lst (((s ++ [.bl c]) ++ [a1]) ++ [b1])) := by rw [h1]; simp
            have l1 : (s ++ [V.bl c, a1, b1]).length = s.length + 3 := by simp
            walk_at "go2"
            refine r_pop (s := (s ++ [.bl c]) ++ [a1]) (v := b1) (by tb_rel) ?_
            walk_at "go2"
            refine r_pop (s := s ++ [.bl c]) (v := a1) upd_same ?_
            walk_at "go2"
            refine r_pop (s := s) (v := .bl c) upd_same ?_
            cases c with
            | true =>
              walk_at "go2"
              refine r_app (xs := s) upd_same (by omega) ?_
              exact ⟨at_ + 1, _, _, _, _, _, _, _, _, rfl, Gr.own (Gr.own (Gr.own (Gr.own (by walk_at "gr") hsl0) hsl0) hsl0) hsl0, upd_same, look_n (by tb_rel) (Ne.symm hne), hk, by simp; omega, hrl', by omega⟩
            | false =>
              walk_at "go2"
              refine r_app (xs := s) upd_same (by omega) ?_
              exact ⟨at_ + 1, _, _, _, _, _, _, _, _, rfl, Gr.own (Gr.own (Gr.own (Gr.own (by walk_at "gr") hsl0) hsl0) hsl0) hsl0, upd_same, look_n (by tb_rel) (Ne.symm hne), hk, by simp; omega, hrl', by omega⟩
          | @not bb =>
            have ha' : H' b = some (.tup [.str "not"]) := hb'
            have l1 : (s ++ [V.bl bb]).length = s.length + 1 := by simp
            walk_at "go2"
            intro d hd
            refine r_pairs ?_
            walk_at "go2"
            refine r_pairs ?_
            walk_at "go2"
            refine r_pairs ?_
            walk_at "go2"
            refine r_pairs ?_
            walk_at "go2"
            refine r_pairs0 ?_
            refine ⟨upd_same, [(.inr "div", .str "int"), (.inr "mod", .str "int"), (.inr "not", .str "flag"), (.inr "cut", .str "text")], rfl, by decide, ?_⟩
            walk_at "go2"
            refine r_dget ?_
            walk_at "go2"
            refine ⟨d, .str "flag", rfl, by rw [show some (V.str "flag") = valV (mergeK [] [((.inr "div" : L2.Key), V.str "int"), (.inr "mod", .str "int"), (.inr "not", .str "flag"), (.inr "cut", .str "text")]) (.inr "not") by rfl]; exact DGet.k (k := .inr "not") upd_same, ?_⟩
            walk_at "go2"
            refine r_pop (s := s) (v := .bl bb) (by tb_rel) ?_
            walk_at "go2"
            refine ⟨sv, .ref vl, _, _, [_], _, rfl, .not, .inr ⟨_, _, _, rfl, .not, upd_same, ⟨"flag", by tb_rel, by simp⟩⟩, fun H3 g3 => ?_⟩
            have hd0 : H d = none := g.free _ (free_of_upd (free_of_upd hd))
            have hs3 := g3.lst (xs := s) (l := sl) (by tb_rel) id
            have hv3 := g3.lst (xs := rs') (l := vl) (by tb_rel) id
            walk_at "go2"
            refine r_app (xs := s) hs3 (by omega) ?_
            exact ⟨at_ + 1, _, _, _, _, _, _, _, _, rfl, Gr.own (Gr.trans (Gr.trans (Gr.trans (Gr.own (Gr.own (Gr.trans (by walk_at "gr") (Gr.new hd)) hd0) hsl0) (Gr.new (by assumption))) (Gr.new (by assumption))) g3) hsl0, upd_same, look_n hv3 (Ne.symm hne), hk, by simp; omega, hrl', by omega⟩
          | @div n bb h =>
            have ha' : H' b = some (.tup [.str "div", .int n]) := hb'
            have l1 : (s ++ [V.int bb]).length = s.length + 1 := by simp
            walk_at "go2"
            intro d hd
            refine r_pairs ?_
            walk_at "go2"
            refine r_pairs ?_
            walk_at "go2"
            refine r_pairs ?_
            walk_at "go2"
            refine r_pairs ?_
            walk_at "go2"
            refine r_pairs0 ?_
            refine ⟨upd_same, [(.inr "div", .str "int"), (.inr "mod", .str "int"), (.inr "not", .str "flag"), (.inr "cut", .str "text")], rfl, by decide, ?_⟩
            walk_at "go2"
            refine r_dget ?_
            walk_at "go2"
            refine ⟨d, .str "int", rfl, by rw [show some (V.str "int") = valV (mergeK [] [((.inr "div" : L2.Key), V.str "int"), (.inr "mod", .str "int"), (.inr "not", .str "flag"), (.inr "cut", .str "text")]) (.inr "div") by rfl]; exact DGet.k (k := .inr "div") upd_same, ?_⟩
            walk_at "go2"
            refine r_pop (s := s) (v := .int bb) (by tb_rel) ?_
            walk_at "go2"
            refine ⟨sv, .ref vl, _, _, [_], _, rfl, .div h, .inr ⟨_, _, _, rfl, .div, upd_same, ⟨"int", by tb_rel, by simp⟩⟩, fun H3 g3 => ?_⟩
            have hd0 : H d = none := g.free _ (free_of_upd (free_of_upd hd))
            have hs3 := g3.lst (xs := s) (l := sl) (by tb_rel) id
            have hv3 := g3.lst (xs := rs') (l := vl) (by tb_rel) id
            walk_at "go2"
            refine r_app (xs := s) hs3 (by omega) ?_
            exact ⟨at_ + 1, _, _, _, _, _, _, _, _, rfl, Gr.own (Gr.trans (Gr.trans (Gr.trans (Gr.own (Gr.own (Gr.trans (by walk_at "gr") (Gr.new hd)) hd0) hsl0) (Gr.new (by assumption))) (Gr.new (by assumption))) g3) hsl0, upd_same, look_n hv3 (Ne.symm hne), hk, by simp; omega, hrl', by omega⟩
          | @mod n bb h =>
            have ha' : H' b = some (.tup [.str "mod", .int n]) := hb'
            have l1 : (s ++ [V.int bb]).length = s.length + 1 := by simp
            walk_at "go2"
            intro d hd
            refine r_pairs ?_
            walk_at "go2"
            refine r_pairs ?_
            walk_at "go2"
            refine r_pairs ?_
            walk_at "go2"
            refine r_pairs ?_
            walk_at "go2"
            refine r_pairs0 ?_
            refine ⟨upd_same, [(.inr "div", .str "int"), (.inr "mod", .str "int"), (.inr "not", .str "flag"), (.inr "cut", .str "text")], rfl, by decide, ?_⟩
            walk_at "go2"
            refine r_dget ?_
            walk_at "go2"
            refine ⟨d, .str "int", rfl, by rw [show some (V.str "int") = valV (mergeK [] [((.inr "div" : L2.Key), V.str "int"), (.inr "mod", .str "int"), (.inr "not", .str "flag"), (.inr "cut", .str "text")]) (.inr "mod") by rfl]; exact DGet.k (k := .inr "mod") upd_same, ?_⟩
            walk_at "go2"
            refine r_pop (s := s) (v := .int bb) (by tb_rel) ?_
            walk_at "go2"
            refine ⟨sv, .ref vl, _, _, [_], _, rfl, .mod h, .inr ⟨_, _, _, rfl, .mod, upd_same, ⟨"int", by tb_rel, by simp⟩⟩, fun H3 g3 => ?_⟩
            have hd0 : H d = none := g.free _ (free_of_upd (free_of_upd hd))
            have hs3 := g3.lst (xs := s) (l := sl) (by tb_rel) id
            have hv3 := g3.lst (xs := rs') (l := vl) (by tb_rel) id
            walk_at "go2"
            refine r_app (xs := s) hs3 (by omega) ?_
            exact ⟨at_ + 1, _, _, _, _, _, _, _, _, rfl, Gr.own (Gr.trans (Gr.trans (Gr.trans (Gr.own (Gr.own (Gr.trans (by walk_at "gr") (Gr.new hd)) hd0) hsl0) (Gr.new (by assumption))) (Gr.new (by assumption))) g3) hsl0, upd_same, look_n hv3 (Ne.symm hne), hk, by simp; omega, hrl', by omega⟩
          | @cut n bb h h0 =>
            have ha' : H' b = some (.tup [.str "cut", .int n]) := hb'
            have l1 : (s ++ [V.str bb]).length = s.length + 1 := by simp
            walk_at "go2"
            intro d hd
            refine r_pairs ?_
            walk_at "go2"
            refine r_pairs ?_
            walk_at "go2"
            refine r_pairs ?_
            walk_at "go2"
            refine r_pairs ?_
            walk_at "go2"
            refine r_pairs0 ?_
            refine ⟨upd_same, [(.inr "div", .str "int"), (.inr "mod", .str "int"), (.inr "not", .str "flag"), (.inr "cut", .str "text")], rfl, by decide, ?_⟩
            walk_at "go2"
            refine r_dget ?_
            walk_at "go2"
            refine ⟨d, .str "text", rfl, by rw [show some (V.str "text") = valV (mergeK [] [((.inr "div" : L2.Key), V.str "int"), (.inr "mod", .str "int"), (.inr "not", .str "flag"), (.inr "cut", .str "text")]) (.inr "cut") by rfl]; exact DGet.k (k := .inr "cut") upd_same, ?_⟩
            walk_at "go2"
            refine r_pop (s := s) (v := .str bb) (by tb_rel) ?_
            walk_at "go2"
            refine ⟨sv, .ref vl, _, _, [_], _, rfl, .cut h h0, .inr ⟨_, _, _, rfl, .cut, upd_same, ⟨"text", by tb_rel, by simp⟩⟩, fun H3 g3 => ?_⟩
            have hd0 : H d = none := g.free _ (free_of_upd (free_of_upd hd))
            have hs3 := g3.lst (xs := s) (l := sl) (by tb_rel) id
            have hv3 := g3.lst (xs := rs') (l := vl) (by tb_rel) id
            walk_at "go2"
            refine r_app (xs := s) hs3 (by omega) ?_
            exact ⟨at_ + 1, _, _, _, _, _, _, _, _, rfl, Gr.own (Gr.trans (Gr.trans (Gr.trans (Gr.own (Gr.own (Gr.trans (by walk_at "gr") (Gr.new hd)) hd0) hsl0) (Gr.new (by assumption))) (Gr.new (by assumption))) g3) hsl0, upd_same, look_n hv3 (Ne.symm hne), hk, by simp; omega, hrl', by omega⟩
  · rintro σ H' ⟨at_, st, rs', w6, w7, w8, w9, w10, w11, rfl, g, h1, h2, hR, hst, hrl', hja⟩
    cases hR with
    | done h =>
      walk_at "go2"
      refine ⟨vl, qs, rfl, .inl ⟨SqL.of h2, fun p hp => ?_⟩⟩
      exact q _ p (g.trans (Gr.new hp)) upd_same
    | step hx => exact absurd (List.getElem?_eq_some_iff.mp hx).1 (by omega)
end
end Snk
set_option Elab.async false
set_option linter.all false
set_option maxRecDepth 100000
set_option maxHeartbeats 4000000
namespace Snk
open PySem PySem.Spec PyProof.Rows L2 GxR GxT
local macro_rules | `(tactic| walk_at "K") => `(tactic| try simp only [ws_K, ws_P, ws_w, cx_K, cx_P, cx_w])
local macro_rules | `(tactic| walk_at "isi") => `(tactic| first
  | with_reducible refine r_isB (.base (.int _)) kk_int_int ?_ | with_reducible refine r_isB (.base (.int _)) kk_int_bool ?_ | with_reducible refine r_isB (.base (.int _)) kk_int_str ?_ | with_reducible refine r_isB (.base (.int _)) kk_int_tuple ?_ | with_reducible refine r_isB (.base (.bl _)) kk_bool_int ?_ | with_reducible refine r_isB (.base (.bl _)) kk_bool_bool ?_ | with_reducible refine r_isB (.base (.bl _)) kk_bool_str ?_ | with_reducible refine r_isB (.base (.bl _)) kk_bool_tuple ?_ | with_reducible refine r_isB (.base (.str _)) kk_str_int ?_ | with_reducible refine r_isB (.base (.str _)) kk_str_bool ?_ | with_reducible refine r_isB (.base (.str _)) kk_str_str ?_ | with_reducible refine r_isB (.base (.str _)) kk_str_tuple ?_ | with_reducible refine r_isB (.base .non) kk_NoneType_int ?_ | with_reducible refine r_isB (.base .non) kk_NoneType_bool ?_ | with_reducible refine r_isB (.base .non) kk_NoneType_str ?_ | with_reducible refine r_isB (.base .non) kk_NoneType_tuple ?_ | with_reducible refine r_isB (.base (.tup (by assumption))) kk_tuple_int ?_ | with_reducible refine r_isB (.base (.tup (by assumption))) kk_tuple_bool ?_ | with_reducible refine r_isB (.base (.tup (by assumption))) kk_tuple_str ?_ | with_reducible refine r_isB (.base (.tup (by assumption))) kk_tuple_tuple ?_)
local macro_rules | `(tactic| tb_rel) => `(tactic| first | assumption | exact upd_same | ((refine look_old ?hl ?hn); (case hn => assumption); (case hl => tb_rel)) | ((refine Gr.tup (by assumption) _ _ ?hl); (case hl => tb_rel)))
local macro_rules | `(tactic| tb_start) => `(tactic| first
  | ((with_reducible refine' r_var ?hvar ?_); (case hvar => exact rfl))
  | with_reducible refine r_c ?_ | with_reducible refine r_op ?_ | with_reducible refine r_un ?_ | with_reducible refine r_chain ?_ | with_reducible refine r_tup ?_ | with_reducible refine r_lst ?_ | with_reducible refine r_cons ?_ | with_reducible refine r_nil ?_ | with_reducible refine r_cb ?_ | with_reducible refine r_call ?_ | with_reducible refine r_bm ?_ | with_reducible refine r_bm0 ?_ | with_reducible refine r_sl ?_ | with_reducible refine r_test ?_ | with_reducible refine r_tb ?_ | with_reducible refine r_tand ?_ | with_reducible refine r_tor ?_ | with_reducible refine r_tnot ?_ | with_reducible refine r_andV ?_ | with_reducible refine r_orV ?_ | with_reducible refine r_notV ?_ | with_reducible refine r_ife ?_ | with_reducible refine s_seq ?_ | with_reducible refine s_nextM ?_ | with_reducible refine s_next ?_ | with_reducible refine s_ret ?_ | with_reducible refine s_if ?_ | with_reducible refine s_asg ?_ | with_reducible refine s_drop ?_ | with_reducible refine s_cont ?_ | with_reducible refine s_break ?_ | with_reducible refine g_name ?_ | with_reducible refine r_I0 ?_ | with_reducible refine r_U ?_ | with_reducible refine k_bl2 ?_ | with_reducible refine r_part ?_ | with_reducible refine r_nopart ?_ | with_reducible refine if_tt ?_ | with_reducible refine if_ff ?_ | with_reducible refine if_nf ?_ | with_reducible refine if_nt ?_
  | ((with_reducible refine' r_eq ?hsc ?_); (case hsc => exact rfl)) | ((with_reducible refine' r_ne ?hsc ?_); (case hsc => exact rfl)) | ((with_reducible refine isi_g ?_); walk_at "isi") | (first | ((with_reducible refine' r_ixT ?hix ?eix ?_); (case hix => tb_rel); (case eix => first | exact at0 | exact at1 | exact at2 | rfl))) | ((with_reducible refine' if_t ?hc ?_); (case hc => decide +kernel)) | ((with_reducible refine' if_f ?hc ?_); (case hc => decide +kernel)))
local macro_rules | `(tactic| walk_at "go") => `(tactic| repeat tb_start)
local macro_rules | `(tactic| walk_at "gr") => `(tactic| first | exact Gr.refl _ _ | assumption | ((refine Gr.trans ?ga (Gr.new ?gn)); (case gn => assumption); (case ga => walk_at "gr")) | ((refine' Gr.trans ?ga ?gb); (case gb => assumption); (case ga => walk_at "gr")))
local macro_rules | `(tactic| walk_at "go2") => `(tactic| repeat (first | tb_start | (((with_reducible refine' And.intro ?hz ?_); (case hz => (refine sz10 ?_; first | decide | (simp; done) | (simp; omega))); intro p hp)) | (first | ((with_reducible refine' r_inT ?hs ?hf ?ha ?_); (case hs => first | assumption | exact SqT.of (by tb_rel)); (case hf => rfl); (case ha => first | rfl | decide +kernel | exact flat_strs)) | ((with_reducible refine' r_niT ?hs ?hf ?ha ?_); (case hs => first | assumption | exact SqT.of (by tb_rel)); (case hf => rfl); (case ha => first | rfl | decide +kernel | exact flat_strs)))))
local macro_rules | `(tactic| tb_start) => `(tactic| with_reducible refine k_int ?_)
local macro_rules | `(tactic| tb_start) => `(tactic| ((with_reducible refine' And.intro (ty_lst ?ht) ?_); (case ht => tb_rel)))
local macro_rules | `(tactic| tb_start) => `(tactic| ((with_reducible refine' s_aug ?h1 ?_); (case h1 => exact rfl)))
local macro_rules | `(tactic| tb_start) => `(tactic| with_reducible refine r_ip ?_)
local macro_rules | `(tactic| tb_start) => `(tactic| with_reducible refine r_gsub ?_)
local macro_rules | `(tactic| tb_rel) => `(tactic| first | assumption | exact upd_same | ((with_reducible refine look_old ?hl ?hn); (case hn => assumption); (case hl => tb_rel)) | ((with_reducible refine' look_n ?h1 ?nn); (case nn => first | assumption | exact Ne.symm (by assumption)); (case h1 => tb_rel)) | ((with_reducible refine' look_t ?h1 ?h2); (case h2 => tb_rel); (case h1 => tb_rel)) | ((with_reducible refine' look_td ?h1 ?h2); (case h2 => tb_rel); (case h1 => tb_rel)) | ((with_reducible refine' look_ld ?h1 ?h2); (case h2 => tb_rel); (case h1 => tb_rel)) | ((refine Gr.tup (by assumption) _ _ ?hl); (case hl => tb_rel)))
local macro_rules | `(tactic| tb_start) => `(tactic| ((with_reducible refine' r_I ?hc ?_); (case hc => first | exact (show (_ : Int) ≠ 0 by decide) | exact ⟨by decide, by decide⟩ | exact Or.inr ⟨by decide, by decide⟩ | exact ⟨by decide, by decide, by decide⟩)))
local macro_rules | `(tactic| tb_start) => `(tactic| with_reducible refine (Or.inl ⟨_, rfl, ?_⟩ : (∃ j, [V.int _] = [V.int j] ∧ _) ∨ _))
theorem r_slL {K : PySem.W.Frag} {H : Hp} {a : Addr} {xs : List V} {lo hi : Option Int} {Q : VK} (h : SqL K H a xs) (q : ∀ p, H p = none → Q (.ref p) (upd H p (.lst (cutV xs lo hi)))) : rSlL K (.ref a) lo hi H Q := ⟨a, xs, rfl, h, q⟩
/-- an item by a remainder -/
theorem at_mod {xs : List V} {x n : Int} (hn : n = (xs.length : Int)) (h0 : 0 < n) : ∃ v, v ∈ xs ∧ atI xs (x.fmod n) = some v := by
  obtain ⟨h1, h2⟩ := fmod_lo (a := x) (n := n) (by omega)
  have hl : (x.fmod n).toNat < xs.length := by omega
  exact ⟨xs[(x.fmod n).toNat], List.getElem_mem hl, at_k h1 (List.getElem?_eq_getElem hl)⟩
theorem cut_ints {ns : List Int} {lo hi : Option Int} : ∃ ms : List Int, cutV (ns.map V.int) lo hi = ms.map V.int ∧ ms.length ≤ ns.length := by
  refine ⟨(ns.drop (HT.sIx (ns.map V.int).length 0 lo)).take (HT.sIx (ns.map V.int).length (ns.map V.int).length hi - HT.sIx (ns.map V.int).length 0 lo), ?_, ?_⟩
  · unfold cutV
    rw [List.map_take, List.map_drop]
  · rw [List.length_take, List.length_drop]; omega
def DrV (H : Hp) (l : Addr) : Prop := ∃ ns : List Int, H l = some (.lst (ns.map V.int)) ∧ ns.length ≤ 5000
section
variable {P : Program} {w : World} {K : PySem.W.Frag} {mg : Str → Option Value} {base : Heap} {CX : CXT}
/-! ### _law_draws -/
abbrev nm_law_draws : List Str := ["_law_script", "_law_start", "_law_most", "_law_draws_here", "_law_cell_here", "_law_number", "_law_mixed", "_law_k"]
theorem sc_law_draws : FnScope nm_law_draws ["_law_script", "_law_start", "_law_most"] (defScope (topS 41)) := ⟨rfl, rfl, rfl, by decide +kernel, rfl, by decide +kernel, by decide +kernel⟩
-- slots: 0:_law_script 1:_law_start 2:_law_most 3:_law_draws_here 4:_law_cell_here 5:_law_number 6:_law_mixed 7:_law_k
def spDraws (K : PySem.W.Frag) : Sp := fun vs H Q _ => ∃ (a : Addr) (ns : List Int) (m : Int), vs = [.ref a, .int 0, .int m] ∧ SqL K H a (ns.map V.int) ∧ ns.length ≤ 100 ∧ ∀ H' p, Gr no H H' → H p = none → DrV H' p → Q (.ref p) H'
theorem c_law_draws (D : DefAt K mg "_law_draws" 41 ["_law_script", "_law_start", "_law_most"]) (B : Blt mg) : Cal P w K mg base CX0 1 "_law_draws" ["_law_script", "_law_start", "_law_most"] (spDraws K) := by
  refine mk0 D sc_law_draws (fun vs H Q E h => by obtain ⟨_, _, _, rfl, _⟩ := h; rfl) ?_
  rintro X Q vs H E ⟨f, cdv, A, outer, s, H0, rfl⟩ hr ⟨a, ns, m, rfl, ha, hlen, q⟩
  refine ⟨_, (pss_cons (ps_set (i := 3) sc_law_draws.nd rfl (Or.inl rfl) (pe_lst pa_nil))
      (pss_cons (ps_for PassesOwn.never rfl (pi_list (pe_slice sl_list (pv 0) (po_some (pv 1)) po_none)) (pg_name (i := 4) sc_law_draws.nd rfl (Or.inl rfl)) (pss_cons (ps_set (i := 5) sc_law_draws.nd rfl (Or.inl rfl) (pe_callB call_abs rfl B.abs_ (by decide +kernel) (pa_cons (pe_callTy call_int1 rfl B.int_ (by decide +kernel) (pa_cons (pv 4) pa_nil)) pa_nil)))
      (pss_one (ps_if (pt_cmpR op_lt (pv 5) (pe_op op_pow pe_int pe_int) (nomark _)) (pss_cons (ps_set (i := 6) sc_law_draws.nd rfl (Or.inl rfl) (pe_op op_modN (pe_callTy call_int1 rfl B.int_ (by decide +kernel) (pa_cons (pe_op op_add (pe_op op_mul (pv 5) pe_int) pe_int) pa_nil)) pe_int))
      (pss_cons (ps_expr (pe_bm PySem.F.plainAttrs_list PySem.F.slot_list_append PySem.F.type_list_append mt_append (pv 3) (pa_cons (pv 5) pa_nil)))
      (pss_cons (ps_expr (pe_bm PySem.F.plainAttrs_list PySem.F.slot_list_append PySem.F.type_list_append mt_append (pv 3) (pa_cons (pe_op op_fdivN (pe_op op_modN (pe_callTy call_int1 rfl B.int_ (by decide +kernel) (pa_cons (pe_op op_add (pe_op op_add (pe_op op_mul (pv 6) pe_int) (pe_op op_fdivN (pv 5) pe_int)) pe_int) pa_nil)) pe_int) pe_int) pa_nil)))
      (pss_one (ps_expr (pe_bm PySem.F.plainAttrs_list PySem.F.slot_list_append PySem.F.type_list_append mt_append (pv 3) (pa_cons (pe_op op_fdivN (pe_op op_modN (pe_callTy call_int1 rfl B.int_ (by decide +kernel) (pa_cons (pe_op op_add (pe_op op_add (pe_op op_mul (pv 6) pe_int) (pe_op op_fdivN (pv 5) pe_int)) pe_int) pa_nil)) pe_int) pe_int) pa_nil))))))) (pss_one (ps_for PassesOwn.never rfl (pi_range1 rfl B.range_ (pa_cons pe_int pa_nil)) (pg_name (i := 7) sc_law_draws.nd rfl (Or.inl rfl)) (pss_cons (ps_if (pt_cmpR op_gt (pv 5) pe_int (nomark _)) (pss_one (ps_expr (pe_bm PySem.F.plainAttrs_list PySem.F.slot_list_append PySem.F.type_list_append mt_append (pv 3) (pa_cons (pe_op op_modN (pe_callTy call_int1 rfl B.int_ (by decide +kernel) (pa_cons (pv 5) pa_nil)) pe_int) pa_nil)))) pss_nil)
      (pss_one (ps_set (i := 5) sc_law_draws.nd rfl (Or.inl rfl) (pe_op op_fdivN (pv 5) pe_int))))))))))
      (pss_one (ps_ret (pe_slice sl_list (pv 3) po_none (po_some (pv 2))))))), ?_⟩
  walk_at "K"
  walk_at "go2"
  rename_i L hL
  refine s_for (i_lst ?_)
  walk_at "go2"
  have ha1 : SqL K (upd H L (.lst [])) a (ns.map V.int) := (Gr.new (x := no) hL).seqL ha id
  refine r_slL ha1 fun S hS => ?_
  obtain ⟨ms, em, hm⟩ := cut_ints (ns := ns) (lo := some 0) (hi := none)
  rw [em]
  have hSL : S ≠ L := fun z => by rw [z, upd_same] at hS; cases hS
  refine ⟨S, rfl, ⟨_, SqL.of upd_same⟩, ?_⟩
  have hS0 : H S = none := free_of_upd hS
  refine for_list (K := K) (a := S) (xs := ms.map V.int) (fun i σ H' => Gr no H H' ∧ H' S = some (.lst (ms.map V.int)) ∧ (∃ u4 u5 u6 u7, σ = [some (.ref a), some (.int 0), some (.int m), some (.ref L), u4, u5, u6, u7]) ∧ ∃ ds : List Int, H' L = some (.lst (ds.map V.int)) ∧ ds.length ≤ 20 * i)
    ⟨(Gr.new hL).trans (Gr.new hS), upd_same, ⟨_, _, _, _, rfl⟩, [], by rw [upd_ne (Ne.symm hSL)]; exact upd_same, Nat.le_refl _⟩ (fun i σ H' _ p => SqL.of p.2.1) ?_ ?_
  · rintro i y σ H' hy ⟨g, hs, ⟨u4, u5, u6, u7, rfl⟩, ds, hd, hdl⟩
    have hi : i < ms.length := by
      have := (List.getElem?_eq_some_iff.mp hy).1
      simpa using this
    obtain ⟨z, rfl⟩ : ∃ z, y = V.int z := by
      rw [List.getElem?_map] at hy
      cases e : ms[i]? with
      | none => rw [e] at hy; cases hy
      | some z => rw [e] at hy; exact ⟨z, (Option.some.inj hy).symm⟩
    have push : ∀ {H2 : Hp} {es : List Int} {n : Int}, Gr no H H2 → H2 S = some (.lst (ms.map V.int)) → Gr no H (upd H2 L (.lst (es.map V.int ++ [V.int n]))) ∧ (upd H2 L (.lst (es.map V.int ++ [V.int n]))) S = some (.lst (ms.map V.int)) ∧ (upd H2 L (.lst (es.map V.int ++ [V.int n]))) L = some (.lst ((es ++ [n]).map V.int)) := fun g h1 =>
      ⟨Gr.own g hL, by rw [upd_ne hSL]; exact h1, by rw [upd_same, List.map_append]; rfl⟩
    walk_at "go2"
    refine ⟨_, rfl, ?_⟩
    walk_at "go2"
    generalize (if z < 0 then -z else z) = nb
    refine if_dec (fun c1 => ?_) (fun c1 => ?_)
    · walk_at "go2"
      refine r_app (xs := ds.map V.int) hd (by rw [List.length_map]; omega) ?_
      obtain ⟨g1, s1, d1⟩ := push (es := ds) (n := nb) g hs
      generalize upd H' L (.lst (ds.map V.int ++ [V.int nb])) = H1 at g1 s1 d1 ⊢
      walk_at "go2"
      refine r_app (xs := (ds ++ [nb]).map V.int) d1 (by rw [List.length_map, List.length_append]; simp; omega) ?_
      obtain ⟨g2, s2, d2⟩ := push (es := ds ++ [nb]) (n := _) g1 s1
      walk_at "go2"
      refine r_app d2 (by rw [List.length_map, List.length_append, List.length_append]; simp; omega) ?_
      obtain ⟨g3, s3, d3⟩ := push (n := _) g2 s2
      exact ⟨g3, s3, ⟨_, _, _, _, rfl⟩, _, d3, by simp; omega⟩
    · walk_at "go2"
      refine s_for (i_rng ?_)
      walk_at "go2"
      refine ⟨_, rfl, by decide, by decide, ?_⟩
      refine for_range (n := 20) (fun j σ H' => Gr no H H' ∧ H' S = some (.lst (ms.map V.int)) ∧ (∃ u4 nb u6 u7, σ = [some (.ref a), some (.int 0), some (.int m), some (.ref L), u4, some (.int nb), u6, u7]) ∧ ∃ ds : List Int, H' L = some (.lst (ds.map V.int)) ∧ ds.length ≤ 20 * i + j)
        ⟨g, hs, ⟨_, nb, _, _, rfl⟩, ds, hd, by omega⟩ ?_ ?_
      · rintro j σ H' hj ⟨g, hs, ⟨u4, nb, u6, u7, rfl⟩, ds, hd, hdl⟩
        walk_at "go2"
        refine if_dec (fun c2 => ?_) (fun c2 => ?_)
        · walk_at "go2"
          refine r_app (xs := ds.map V.int) hd (by rw [List.length_map]; omega) ?_
          obtain ⟨g1, s1, d1⟩ := push (es := ds) (n := nb.fmod 10000) g hs
          generalize upd H' L (.lst (ds.map V.int ++ [V.int (nb.fmod 10000)])) = H1 at g1 s1 d1 ⊢
          walk_at "go2"
          exact ⟨g1, s1, ⟨_, _, _, _, rfl⟩, _, d1, by simp; omega⟩
        · walk_at "go2"
          exact ⟨g, hs, ⟨_, _, _, _, rfl⟩, _, hd, by omega⟩
      · rintro σ H' ⟨g, hs, ⟨u4, nb, u6, u7, rfl⟩, ds, hd, hdl⟩
        exact ⟨g, hs, ⟨_, _, _, _, rfl⟩, _, hd, by omega⟩
  · rintro σ H' ⟨g, hs, ⟨u4, u5, u6, u7, rfl⟩, ds, hd, hdl⟩
    walk_at "go2"
    refine r_slL (SqL.of hd) fun p hp => ?_
    obtain ⟨es, ee, he⟩ := cut_ints (ns := ds) (lo := none) (hi := some m)
    rw [ee]
    have hl : (ms.map V.int).length = ms.length := List.length_map ..
    exact q _ p (g.trans (Gr.new hp)) (g.free _ hp) ⟨es, upd_same, by omega⟩
end
end Snk
set_option Elab.async false
set_option linter.all false
set_option maxRecDepth 100000
set_option maxHeartbeats 4000000
namespace Snk
open PySem PySem.Spec PyProof.Rows L2 GxR GxT
local macro_rules | `(tactic| walk_at "K") => `(tactic| try simp only [ws_K, ws_P, ws_w, cx_K, cx_P, cx_w])
local macro_rules | `(tactic| walk_at "isi") => `(tactic| first
  | with_reducible refine r_isB (.base (.int _)) kk_int_int ?_ | with_reducible refine r_isB (.base (.int _)) kk_int_bool ?_ | with_reducible refine r_isB (.base (.int _)) kk_int_str ?_ | with_reducible refine r_isB (.base (.int _)) kk_int_tuple ?_ | with_reducible refine r_isB (.base (.bl _)) kk_bool_int ?_ | with_reducible refine r_isB (.base (.bl _)) kk_bool_bool ?_ | with_reducible refine r_isB (.base (.bl _)) kk_bool_str ?_ | with_reducible refine r_isB (.base (.bl _)) kk_bool_tuple ?_ | with_reducible refine r_isB (.base (.str _)) kk_str_int ?_ | with_reducible refine r_isB (.base (.str _)) kk_str_bool ?_ | with_reducible refine r_isB (.base (.str _)) kk_str_str ?_ | with_reducible refine r_isB (.base (.str _)) kk_str_tuple ?_ | with_reducible refine r_isB (.base .non) kk_NoneType_int ?_ | with_reducible refine r_isB (.base .non) kk_NoneType_bool ?_ | with_reducible refine r_isB (.base .non) kk_NoneType_str ?_ | with_reducible refine r_isB (.base .non) kk_NoneType_tuple ?_ | with_reducible refine r_isB (.base (.tup (by assumption))) kk_tuple_int ?_ | with_reducible refine r_isB (.base (.tup (by assumption))) kk_tuple_bool ?_ | with_reducible refine r_isB (.base (.tup (by assumption))) kk_tuple_str ?_ | with_reducible refine r_isB (.base (.tup (by assumption))) kk_tuple_tuple ?_)
local macro_rules | `(tactic| tb_rel) => `(tactic| first | assumption | exact upd_same | ((refine look_old ?hl ?hn); (case hn => assumption); (case hl => tb_rel)) | ((refine Gr.tup (by assumption) _ _ ?hl); (case hl => tb_rel)))
local macro_rules | `(tactic| tb_start) => `(tactic| first
  | ((with_reducible refine' r_var ?hvar ?_); (case hvar => exact rfl))
  | with_reducible refine r_c ?_ | with_reducible refine r_op ?_ | with_reducible refine r_un ?_ | with_reducible refine r_chain ?_ | with_reducible refine r_tup ?_ | with_reducible refine r_lst ?_ | with_reducible refine r_cons ?_ | with_reducible refine r_nil ?_ | with_reducible refine r_cb ?_ | with_reducible refine r_call ?_ | with_reducible refine r_bm ?_ | with_reducible refine r_bm0 ?_ | with_reducible refine r_sl ?_ | with_reducible refine r_test ?_ | with_reducible refine r_tb ?_ | with_reducible refine r_tand ?_ | with_reducible refine r_tor ?_ | with_reducible refine r_tnot ?_ | with_reducible refine r_andV ?_ | with_reducible refine r_orV ?_ | with_reducible refine r_notV ?_ | with_reducible refine r_ife ?_ | with_reducible refine s_seq ?_ | with_reducible refine s_nextM ?_ | with_reducible refine s_next ?_ | with_reducible refine s_ret ?_ | with_reducible refine s_if ?_ | with_reducible refine s_asg ?_ | with_reducible refine s_drop ?_ | with_reducible refine s_cont ?_ | with_reducible refine s_break ?_ | with_reducible refine g_name ?_ | with_reducible refine r_I0 ?_ | with_reducible refine r_U ?_ | with_reducible refine k_bl2 ?_ | with_reducible refine r_part ?_ | with_reducible refine r_nopart ?_ | with_reducible refine if_tt ?_ | with_reducible refine if_ff ?_ | with_reducible refine if_nf ?_ | with_reducible refine if_nt ?_
  | ((with_reducible refine' r_eq ?hsc ?_); (case hsc => exact rfl)) | ((with_reducible refine' r_ne ?hsc ?_); (case hsc => exact rfl)) | ((with_reducible refine isi_g ?_); walk_at "isi") | (first | ((with_reducible refine' r_ixT ?hix ?eix ?_); (case hix => tb_rel); (case eix => first | exact at0 | exact at1 | exact at2 | rfl))) | ((with_reducible refine' if_t ?hc ?_); (case hc => decide +kernel)) | ((with_reducible refine' if_f ?hc ?_); (case hc => decide +kernel)))
local macro_rules | `(tactic| walk_at "go") => `(tactic| repeat tb_start)
local macro_rules | `(tactic| walk_at "gr") => `(tactic| first | exact Gr.refl _ _ | assumption | ((refine Gr.trans ?ga (Gr.new ?gn)); (case gn => assumption); (case ga => walk_at "gr")) | ((refine' Gr.trans ?ga ?gb); (case gb => assumption); (case ga => walk_at "gr")))
local macro_rules | `(tactic| walk_at "go2") => `(tactic| repeat (first | tb_start | (((with_reducible refine' And.intro ?hz ?_); (case hz => (refine sz10 ?_; first | decide | (simp; done) | (simp; omega))); intro p hp)) | (first | ((with_reducible refine' r_inT ?hs ?hf ?ha ?_); (case hs => first | assumption | exact SqT.of (by tb_rel)); (case hf => rfl); (case ha => first | rfl | decide +kernel | exact flat_strs)) | ((with_reducible refine' r_niT ?hs ?hf ?ha ?_); (case hs => first | assumption | exact SqT.of (by tb_rel)); (case hf => rfl); (case ha => first | rfl | decide +kernel | exact flat_strs)))))
local macro_rules | `(tactic| tb_start) => `(tactic| with_reducible refine k_int ?_)
local macro_rules | `(tactic| tb_start) => `(tactic| ((with_reducible refine' And.intro (ty_lst ?ht) ?_); (case ht => tb_rel)))
local macro_rules | `(tactic| tb_start) => `(tactic| ((with_reducible refine' s_aug ?h1 ?_); (case h1 => exact rfl)))
local macro_rules | `(tactic| tb_start) => `(tactic| with_reducible refine r_ip ?_)
local macro_rules | `(tactic| tb_start) => `(tactic| with_reducible refine r_gsub ?_)
local macro_rules | `(tactic| tb_rel) => `(tactic| first | assumption | exact upd_same | ((with_reducible refine look_old ?hl ?hn); (case hn => assumption); (case hl => tb_rel)) | ((with_reducible refine' look_n ?h1 ?nn); (case nn => first | assumption | exact Ne.symm (by assumption)); (case h1 => tb_rel)) | ((with_reducible refine' look_t ?h1 ?h2); (case h2 => tb_rel); (case h1 => tb_rel)) | ((with_reducible refine' look_td ?h1 ?h2); (case h2 => tb_rel); (case h1 => tb_rel)) | ((with_reducible refine' look_ld ?h1 ?h2); (case h2 => tb_rel); (case h1 => tb_rel)) | ((refine Gr.tup (by assumption) _ _ ?hl); (case hl => tb_rel)))
local macro_rules | `(tactic| tb_start) => `(tactic| ((with_reducible refine' r_I ?hc ?_); (case hc => first | exact (show (_ : Int) ≠ 0 by decide) | exact ⟨by decide, by decide⟩ | exact Or.inr ⟨by decide, by decide⟩ | exact ⟨by decide, by decide, by decide⟩)))
local macro_rules | `(tactic| tb_start) => `(tactic| with_reducible refine (Or.inl ⟨_, rfl, ?_⟩ : (∃ j, [V.int _] = [V.int j] ∧ _) ∨ _))
section
variable {P : Program} {w : World} {K : PySem.W.Frag} {mg : Str → Option Value} {base : Heap} {CX : CXT}
/-! ### _law_next -/
abbrev nm_law_next : List Str := ["_law_draws_here"]
theorem sc_law_next : FnScope nm_law_next ["_law_draws_here"] (defScope (topS 42)) := ⟨rfl, rfl, rfl, by decide +kernel, rfl, by decide +kernel, by decide +kernel⟩
-- slots: 0:_law_draws_here
def spNext : Sp := fun vs H Q _ => ∃ (a : Addr), vs = [.ref a] ∧ DrV H a ∧ ∀ H' i, Gr (fun b => b = a) H H' → DrV H' a → Q (.int i) H'
theorem c_law_next (D : DefAt K mg "_law_next" 42 ["_law_draws_here"]) (B : Blt mg) : Cal P w K mg base CX0 1 "_law_next" ["_law_draws_here"] spNext := by
  refine mk0 D sc_law_next (fun vs H Q E h => by obtain ⟨_, rfl, _⟩ := h; rfl) ?_
  rintro X Q vs H E ⟨f, cdv, A, outer, s, H0, rfl⟩ hr ⟨a, rfl, ⟨ns, ha, hl⟩, q⟩
  refine ⟨_, (pss_cons (ps_if (pt_cmpR op_eq (pe_callB call_len_seq rfl B.len_ PySem.boot_len (pa_cons (pv 0) pa_nil)) pe_int (nomark _)) (pss_one (ps_ret pe_int)) pss_nil)
      (pss_one (ps_ret (pe_bm PySem.F.plainAttrs_list PySem.F.slot_list_pop PySem.F.type_list_pop mt_popAt (pv 0) (pa_cons pe_int pa_nil))))), ?_⟩
  walk_at "K"
  walk_at "go2"
  refine ⟨a, _, rfl, .inl (SqL.of ha), ?_⟩
  rw [List.length_map]
  cases ns with
  | nil =>
    walk_at "go2"
    exact q _ _ (Gr.refl _ _) ⟨[], ha, hl⟩
  | cons n ns =>
    walk_at "go2"
    refine if_f (decide_eq_false (fun z => by have := V.int.inj z; rw [List.length_cons] at this; omega)) ?_
    walk_at "go2"
    refine ⟨a, (n :: ns).map V.int, 0, 0, .int n, rfl, rfl, ha, by decide, by decide, ?_, rfl, ?_⟩
    · rw [List.map_cons, List.length_cons]
      unfold seqIndex?
      simp
    · exact q _ _ (Gr.put ha rfl) ⟨ns, by rw [upd_same]; rfl, by rw [List.length_cons] at hl; omega⟩
/-! ### _law_kind -/
abbrev nm_law_kind : List Str := ["_law_draw", "_law_low"]
theorem sc_law_kind : FnScope nm_law_kind ["_law_draw"] (defScope (topS 43)) := ⟨rfl, rfl, rfl, by decide +kernel, rfl, by decide +kernel, by decide +kernel⟩
-- slots: 0:_law_draw 1:_law_low
def spKind : Sp := fun vs H Q _ => ∃ (d : Int), vs = [.int d] ∧ ∀ H' u b, Gr no H H' → BdV H' u b → KindOk b → Q u H'
theorem take_words {n : Nat} (h : 1 ≤ n) : WOk ((["new", "old", "lost", "a", "if"] : List Str).take n) ∧ (["new", "old", "lost", "a", "if"] : List Str).take n ≠ [] := by
  refine ⟨⟨(List.take_sublist _ _).nodup (by decide +kernel), fun s hs => ?_⟩, ?_⟩
  · have k : (["new", "old", "lost", "a", "if"] : List Str).all (fun s => decide (s ∈ WRD)) = true := by decide +kernel
    exact of_decide_eq_true (List.all_eq_true.mp k s (List.mem_of_mem_take hs))
  · intro e
    have := congrArg List.length e
    rw [List.length_take] at this
    simp at this
    omega
theorem c_law_kind (D : DefAt K mg "_law_kind" 43 ["_law_draw"]) (B : Blt mg) : Cal P w K mg base CX0 1 "_law_kind" ["_law_draw"] spKind := by
  refine mk0 D sc_law_kind (fun vs H Q E h => by obtain ⟨_, rfl, _⟩ := h; rfl) ?_
  rintro X Q vs H E ⟨f, cdv, A, outer, s, H0, rfl⟩ hr ⟨d, rfl, q⟩
  refine ⟨_, (pss_cons (ps_if (pt_cmpR op_lt (pe_op op_modN (pv 0) pe_int) pe_int (nomark _)) (pss_cons (ps_set (i := 1) sc_law_kind.nd rfl (Or.inl rfl) (pe_ix ix_list (pe_lst (pa_cons pe_int (pa_cons (pe_un un_neg pe_int) (pa_cons pe_int (pa_cons (pe_un un_neg pe_int) (pa_cons (pe_un un_neg pe_int) pa_nil)))))) (pe_op op_modN (pe_op op_fdivN (pv 0) pe_int) pe_int) (fun _ _ => rfl)))
      (pss_one (ps_ret (pe_tup (pa_cons pe_str (pa_cons (pv 1) (pa_cons (pe_callB (call_min2 rfl) rfl B.min_ (by decide +kernel) (pa_cons pe_int (pa_cons (pe_op op_add (pv 1) (pe_ix ix_list (pe_lst (pa_cons pe_int (pa_cons pe_int (pa_cons pe_int (pa_cons pe_int pa_nil))))) (pe_op op_modN (pe_op op_fdivN (pv 0) pe_int) pe_int) (fun _ _ => rfl))) pa_nil))) pa_nil))))))) pss_nil)
      (pss_cons (ps_if (pt_cmpR op_eq (pe_op op_modN (pv 0) pe_int) pe_int (nomark _)) (pss_one (ps_ret (pe_tup (pa_cons pe_str pa_nil)))) pss_nil)
      (pss_cons (ps_if (pt_cmpR op_eq (pe_op op_modN (pv 0) pe_int) pe_int (nomark _)) (pss_one (ps_ret (pe_tup (pa_cons pe_str (pa_cons (pe_slice sl_tupA (pe_tup (pa_cons pe_str (pa_cons pe_str (pa_cons pe_str (pa_cons pe_str (pa_cons pe_str pa_nil)))))) po_none (po_some (pe_op op_add pe_int (pe_op op_modN (pe_op op_fdivN (pv 0) pe_int) pe_int)))) pa_nil))))) pss_nil)
      (pss_one (ps_ret (pe_tup (pa_cons pe_str (pa_cons (pe_ix ix_list (pe_lst (pa_cons pe_int (pa_cons pe_int (pa_cons pe_int (pa_cons pe_int pa_nil))))) (pe_op op_modN (pe_op op_fdivN (pv 0) pe_int) pe_int) (fun _ _ => rfl)) pa_nil)))))))), ?_⟩
  walk_at "K"
  walk_at "go2"
  refine if_dec (fun c1 => ?_) (fun c1 => ?_)
  · walk_at "go2"
    obtain ⟨v, hv, ev⟩ := at_mod (xs := [.int 0, .int (-5), .int 3, .int (-1000000000), .int (-9)]) (x := d.fdiv 5) (n := 5) rfl (by decide)
    obtain ⟨low, rfl, hlow⟩ : ∃ low, v = V.int low ∧ -1000000000 ≤ low ∧ low ≤ 3 := by
      simp only [List.mem_cons, List.not_mem_nil, or_false] at hv
      rcases hv with rfl | rfl | rfl | rfl | rfl
      · exact ⟨0, rfl, by omega⟩
      · exact ⟨-5, rfl, by omega⟩
      · exact ⟨3, rfl, by omega⟩
      · exact ⟨-1000000000, rfl, by omega⟩
      · exact ⟨-9, rfl, by omega⟩
    refine r_ixL (by tb_rel) ev ?_
    walk_at "go2"
    obtain ⟨u, hu, eu⟩ := at_mod (xs := [.int 0, .int 9, .int 100, .int 2000000000]) (x := d.fdiv 25) (n := 4) rfl (by decide)
    obtain ⟨up, rfl, hup⟩ : ∃ up, u = V.int up ∧ 0 ≤ up := by
      simp only [List.mem_cons, List.not_mem_nil, or_false] at hu
      rcases hu with rfl | rfl | rfl | rfl
      · exact ⟨0, rfl, by omega⟩
      · exact ⟨9, rfl, by omega⟩
      · exact ⟨100, rfl, by omega⟩
      · exact ⟨2000000000, rfl, by omega⟩
    refine r_ixL (by tb_rel) eu ?_
    walk_at "go2"
    refine ⟨_, _, rfl, ?_⟩
    walk_at "go2"
    refine q _ _ (.int _ _) (by walk_at "gr") ⟨_, rfl, upd_same⟩ ?_
    refine ⟨hlow.1, ?_, ?_⟩ <;> split <;> omega
  · walk_at "go2"
    refine if_i (fun c2 => ?_) (fun c2 => ?_)
    · walk_at "go2"
      exact q _ _ .flag (by walk_at "gr") ⟨_, rfl, upd_same⟩ trivial
    · walk_at "go2"
      refine if_i (fun c3 => ?_) (fun c3 => ?_)
      · walk_at "go2"
        obtain ⟨m1, m2⟩ := fmod_lo (a := d.fdiv 5) (n := 5) (by decide)
        refine r_slTo (xs := (["new", "old", "lost", "a", "if"] : List Str).map V.str) upd_same (by omega) fun p H2 g2 e2 => ?_
        rw [← List.map_take] at e2
        obtain ⟨w1, w2⟩ := take_words (n := ((1 : Int) + (d.fdiv 5).fmod 5).toNat) (by omega)
        walk_at "go2"
        exact q _ _ (.word _) (Gr.trans (Gr.trans (Gr.new (by assumption)) g2) (Gr.new (by assumption))) ⟨_, p, rfl, upd_same, look_old e2 (by assumption)⟩ ⟨w1, w2⟩
      · walk_at "go2"
        obtain ⟨u, hu, eu⟩ := at_mod (xs := [.int 0, .int 1, .int 5, .int 40]) (x := d.fdiv 5) (n := 4) rfl (by decide)
        obtain ⟨up, rfl, hup⟩ : ∃ up, u = V.int up ∧ 0 ≤ up ∧ up ≤ 40 := by
          simp only [List.mem_cons, List.not_mem_nil, or_false] at hu
          rcases hu with rfl | rfl | rfl | rfl
          · exact ⟨0, rfl, by omega⟩
          · exact ⟨1, rfl, by omega⟩
          · exact ⟨5, rfl, by omega⟩
          · exact ⟨40, rfl, by omega⟩
        refine r_ixL (by tb_rel) eu ?_
        walk_at "go2"
        exact q _ _ (.text _) (by walk_at "gr") ⟨_, rfl, upd_same⟩ hup
/-! ### _law_schema -/
abbrev nm_law_schema : List Str := ["_law_draws_here", "_law_fields", "_law_k"]
theorem sc_law_schema : FnScope nm_law_schema ["_law_draws_here"] (defScope (topS 44)) := ⟨rfl, rfl, rfl, by decide +kernel, rfl, by decide +kernel, by decide +kernel⟩
-- slots: 0:_law_draws_here 1:_law_fields 2:_law_k
def spSchema : Sp := fun vs H Q _ => ∃ (a : Addr), vs = [.ref a] ∧ DrV H a ∧ ∀ H' u sch, Gr (fun b => b = a) H H' → DrV H' a → SchV H' u sch → Q u H'
theorem DrV.gr {x : Addr → Prop} {H H' : Hp} {l : Addr} (g : Gr x H H') (h : DrV H l) (n : ¬ x l) : DrV H' l := by
  obtain ⟨ns, e, k⟩ := h
  exact ⟨ns, g.lst e n, k⟩
theorem DrV.ne {H : Hp} {l p : Addr} (h : DrV H l) (e : H p = none) : ¬ p = l := fun z => by
  obtain ⟨ns, k, _⟩ := h
  rw [← z, e] at k; cases k
theorem c_law_schema (D : DefAt K mg "_law_schema" 44 ["_law_draws_here"]) (B : Blt mg) (c_law_next : Cal P w K mg base CX0 1 "_law_next" ["_law_draws_here"] spNext) (c_law_kind : Cal P w K mg base CX0 1 "_law_kind" ["_law_draw"] spKind) : Cal P w K mg base CX0 2 "_law_schema" ["_law_draws_here"] spSchema := by
  refine mk0 D sc_law_schema (fun vs H Q E h => by obtain ⟨_, rfl, _⟩ := h; rfl) ?_
  rintro X Q vs H E ⟨f, cdv, A, outer, s, H0, rfl⟩ hr ⟨a, rfl, ha, q⟩
  refine ⟨_, (pss_cons (ps_set (i := 1) sc_law_schema.nd rfl (Or.inl rfl) (pe_lst pa_nil))
      (pss_cons (ps_for PassesOwn.never rfl (pi_range1 rfl B.range_ (pa_cons (pe_ix ix_list (pe_lst (pa_cons pe_int (pa_cons pe_int (pa_cons pe_int (pa_cons pe_int (pa_cons pe_int (pa_cons pe_int (pa_cons pe_int (pa_cons pe_int pa_nil))))))))) (pe_op op_modN (pc0 c_law_next hr (by decide) (pa_cons (pv 0) pa_nil)) pe_int) (fun _ _ => rfl)) pa_nil)) (pg_name (i := 2) sc_law_schema.nd rfl (Or.inl rfl)) (pss_one (ps_expr (pe_bm PySem.F.plainAttrs_list PySem.F.slot_list_append PySem.F.type_list_append mt_append (pv 1) (pa_cons (pe_tup (pa_cons (pe_ix ix_list (pe_lst (pa_cons pe_str (pa_cons pe_str (pa_cons pe_str (pa_cons pe_str (pa_cons pe_str (pa_cons pe_str (pa_cons pe_str (pa_cons pe_str pa_nil))))))))) (pv 2) (fun _ _ => rfl)) (pa_cons (pc0 c_law_kind hr (by decide) (pa_cons (pc0 c_law_next hr (by decide) (pa_cons (pv 0) pa_nil)) pa_nil)) pa_nil))) pa_nil)))))
      (pss_one (ps_ret (pe_callTy call_tuple_of rfl B.tuple_ (by decide +kernel) (pa_cons (pv 1) pa_nil)))))), ?_⟩
  walk_at "K"
  walk_at "go2"
  rename_i L hL
  have haL : ¬ a = L := fun z => by obtain ⟨ns, e, _⟩ := ha; rw [z, hL] at e; cases e
  refine s_for (i_rng ?_)
  walk_at "go2"
  rename_i p hp
  have ha2 : DrV (upd (upd H L (.lst [])) p (.lst [V.int 1, V.int 2, V.int 3, V.int 4, V.int 2, V.int 3, V.int 5, V.int 8])) a := ha.gr (x := no) ((Gr.new hL).trans (Gr.new hp)) id
  have hpa : ¬ p = a := (ha.gr (x := no) (Gr.new hL) id).ne hp
  refine ⟨a, rfl, ha2, fun H1 i g1 d1 => ?_⟩
  obtain ⟨v, hv, ev⟩ := at_mod (xs := [.int 1, .int 2, .int 3, .int 4, .int 2, .int 3, .int 5, .int 8]) (x := i) (n := 8) rfl (by decide)
  obtain ⟨n, rfl, hn⟩ : ∃ n : Int, v = V.int n ∧ 1 ≤ n ∧ n ≤ 8 := by
    simp only [List.mem_cons, List.not_mem_nil, or_false] at hv
    rcases hv with rfl | rfl | rfl | rfl | rfl | rfl | rfl | rfl <;> exact ⟨_, rfl, by omega⟩
  walk_at "go2"
  refine r_ixL (g1.lst upd_same hpa) ev ?_
  walk_at "go2"
  refine ⟨n, rfl, by omega, by omega, ?_⟩
  have G1 : Gr (fun b => b = a) H H1 := (((Gr.new hL).trans (Gr.new hp)).any).trans g1
  have hLp : L ≠ p := fun z => by rw [← z, upd_same] at hp; cases hp
  refine for_range (fun i σ H' => Gr (fun b => b = a) H H' ∧ DrV H' a ∧ (∃ u2, σ = [some (.ref a), some (.ref L), u2]) ∧ ∃ (vs : List V) (fs : Sch), H' L = some (.lst vs) ∧ Paired (FldV H') vs fs ∧ (∀ f ∈ fs, KindOk f.2) ∧ fs.length = i)
    ⟨G1, d1, ⟨_, rfl⟩, [], [], g1.lst (by rw [upd_ne hLp]; exact upd_same) (fun z => haL z.symm), .nil, (fun x hx => nomatch hx), rfl⟩ ?_ ?_
  · rintro k σ H' hk ⟨g, dr, ⟨u2, rfl⟩, vs, fs, hvs, hfs, hok, hlen⟩
    walk_at "go2"
    rename_i p2 hp2
    have hk8 : k < 8 := by omega
    obtain ⟨s, hs⟩ : ∃ s, (([.str "n", .str "on", .str "state", .str "note", .str "p", .str "q", .str "u", .str "w"] : List V))[k]? = some (.str s) := by
      match k, hk8 with
      | 0, _ => exact ⟨_, rfl⟩
      | 1, _ => exact ⟨_, rfl⟩
      | 2, _ => exact ⟨_, rfl⟩
      | 3, _ => exact ⟨_, rfl⟩
      | 4, _ => exact ⟨_, rfl⟩
      | 5, _ => exact ⟨_, rfl⟩
      | 6, _ => exact ⟨_, rfl⟩
      | 7, _ => exact ⟨_, rfl⟩
    refine r_ixL upd_same (at_n hs) ?_
    walk_at "go2"
    refine ⟨a, rfl, dr.gr (x := no) (Gr.new hp2) id, fun H3 dv g3 d3 => ?_⟩
    walk_at "go2"
    refine ⟨dv, rfl, fun H4 u b g4 hb kb => ?_⟩
    walk_at "go2"
    rename_i p3 hp3
    have gA : Gr (fun b => b = a) H' H4 := (((Gr.new hp2)).trans g3).trans g4.any
    have gB : Gr (fun b => b = a) H' (upd H4 p3 (.tup [.str s, u])) := gA.trans (Gr.new hp3)
    have hL4 : (upd H4 p3 (.tup [.str s, u])) L = some (.lst vs) := gB.lst hvs (fun z => haL z.symm)
    have gC : Gr (fun b => b = L) (upd H4 p3 (.tup [.str s, u])) (upd (upd H4 p3 (.tup [.str s, u])) L (.lst (vs ++ [.ref p3]))) := Gr.put hL4 rfl
    have lvs := hfs.length
    refine r_app hL4 (by omega) ?_
    walk_at "go2"
    refine ⟨Gr.own (g.trans gB) hL, (d3.gr (x := no) (g4.trans (Gr.new hp3)) id).gr gC haL, ⟨_, rfl⟩, _, fs ++ [(s, b)], upd_same, ?_, fun f hf => ?_, by simp; omega⟩
    · exact flds_gr gC (Paired.app (flds_gr gB hfs) (.cons ⟨p3, u, rfl, upd_same, hb.gr (x := no) (Gr.new hp3)⟩ .nil))
    · rcases List.mem_append.mp hf with z | z
      · exact hok f z
      · rw [List.mem_singleton] at z
        rw [z]; exact kb
  · rintro σ H' ⟨g, dr, ⟨u2, rfl⟩, vs, fs, hvs, hfs, hok, hlen⟩
    walk_at "go2"
    refine ⟨L, vs, rfl, .inl ⟨SqL.of hvs, fun r hr => ?_⟩⟩
    exact q _ _ fs (g.trans (Gr.new hr)) (dr.gr (x := no) (Gr.new hr) id) ⟨r, vs, rfl, upd_same, flds_gr (x := no) (Gr.new hr) hfs, hok, by omega, by omega⟩
end
end Snk
set_option Elab.async false
set_option linter.all false
set_option maxRecDepth 100000
set_option maxHeartbeats 4000000
namespace Snk
open PySem PySem.Spec PyProof.Rows L2 GxR GxT
local macro_rules | `(tactic| walk_at "K") => `(tactic| try simp only [ws_K, ws_P, ws_w, cx_K, cx_P, cx_w])
local macro_rules | `(tactic| walk_at "isi") => `(tactic| first
  | with_reducible refine r_isB (.base (.int _)) kk_int_int ?_ | with_reducible refine r_isB (.base (.int _)) kk_int_bool ?_ | with_reducible refine r_isB (.base (.int _)) kk_int_str ?_ | with_reducible refine r_isB (.base (.int _)) kk_int_tuple ?_ | with_reducible refine r_isB (.base (.bl _)) kk_bool_int ?_ | with_reducible refine r_isB (.base (.bl _)) kk_bool_bool ?_ | with_reducible refine r_isB (.base (.bl _)) kk_bool_str ?_ | with_reducible refine r_isB (.base (.bl _)) kk_bool_tuple ?_ | with_reducible refine r_isB (.base (.str _)) kk_str_int ?_ | with_reducible refine r_isB (.base (.str _)) kk_str_bool ?_ | with_reducible refine r_isB (.base (.str _)) kk_str_str ?_ | with_reducible refine r_isB (.base (.str _)) kk_str_tuple ?_ | with_reducible refine r_isB (.base .non) kk_NoneType_int ?_ | with_reducible refine r_isB (.base .non) kk_NoneType_bool ?_ | with_reducible refine r_isB (.base .non) kk_NoneType_str ?_ | with_reducible refine r_isB (.base .non) kk_NoneType_tuple ?_ | with_reducible refine r_isB (.base (.tup (by assumption))) kk_tuple_int ?_ | with_reducible refine r_isB (.base (.tup (by assumption))) kk_tuple_bool ?_ | with_reducible refine r_isB (.base (.tup (by assumption))) kk_tuple_str ?_ | with_reducible refine r_isB (.base (.tup (by assumption))) kk_tuple_tuple ?_)
local macro_rules | `(tactic| tb_rel) => `(tactic| first | assumption | exact upd_same | ((refine look_old ?hl ?hn); (case hn => assumption); (case hl => tb_rel)) | ((refine Gr.tup (by assumption) _ _ ?hl); (case hl => tb_rel)))
local macro_rules | `(tactic| tb_start) => `(tactic| first
  | ((with_reducible refine' r_var ?hvar ?_); (case hvar => exact rfl))
  | with_reducible refine r_c ?_ | with_reducible refine r_op ?_ | with_reducible refine r_un ?_ | with_reducible refine r_chain ?_ | with_reducible refine r_tup ?_ | with_reducible refine r_lst ?_ | with_reducible refine r_cons ?_ | with_reducible refine r_nil ?_ | with_reducible refine r_cb ?_ | with_reducible refine r_call ?_ | with_reducible refine r_bm ?_ | with_reducible refine r_bm0 ?_ | with_reducible refine r_sl ?_ | with_reducible refine r_test ?_ | with_reducible refine r_tb ?_ | with_reducible refine r_tand ?_ | with_reducible refine r_tor ?_ | with_reducible refine r_tnot ?_ | with_reducible refine r_andV ?_ | with_reducible refine r_orV ?_ | with_reducible refine r_notV ?_ | with_reducible refine r_ife ?_ | with_reducible refine s_seq ?_ | with_reducible refine s_nextM ?_ | with_reducible refine s_next ?_ | with_reducible refine s_ret ?_ | with_reducible refine s_if ?_ | with_reducible refine s_asg ?_ | with_reducible refine s_drop ?_ | with_reducible refine s_cont ?_ | with_reducible refine s_break ?_ | with_reducible refine g_name ?_ | with_reducible refine r_I0 ?_ | with_reducible refine r_U ?_ | with_reducible refine k_bl2 ?_ | with_reducible refine r_part ?_ | with_reducible refine r_nopart ?_ | with_reducible refine if_tt ?_ | with_reducible refine if_ff ?_ | with_reducible refine if_nf ?_ | with_reducible refine if_nt ?_
  | ((with_reducible refine' r_eq ?hsc ?_); (case hsc => exact rfl)) | ((with_reducible refine' r_ne ?hsc ?_); (case hsc => exact rfl)) | ((with_reducible refine isi_g ?_); walk_at "isi") | (first | ((with_reducible refine' r_ixT ?hix ?eix ?_); (case hix => tb_rel); (case eix => first | exact at0 | exact at1 | exact at2 | rfl))) | ((with_reducible refine' if_t ?hc ?_); (case hc => decide +kernel)) | ((with_reducible refine' if_f ?hc ?_); (case hc => decide +kernel)))
local macro_rules | `(tactic| walk_at "go") => `(tactic| repeat tb_start)
local macro_rules | `(tactic| walk_at "gr") => `(tactic| first | exact Gr.refl _ _ | assumption | ((refine Gr.trans ?ga (Gr.new ?gn)); (case gn => assumption); (case ga => walk_at "gr")) | ((refine' Gr.trans ?ga ?gb); (case gb => assumption); (case ga => walk_at "gr")))
local macro_rules | `(tactic| walk_at "go2") => `(tactic| repeat (first | tb_start | (((with_reducible refine' And.intro ?hz ?_); (case hz => (refine sz10 ?_; first | decide | (simp; done) | (simp; omega))); intro p hp)) | (first | ((with_reducible refine' r_inT ?hs ?hf ?ha ?_); (case hs => first | assumption | exact SqT.of (by tb_rel)); (case hf => rfl); (case ha => first | rfl | decide +kernel | exact flat_strs)) | ((with_reducible refine' r_niT ?hs ?hf ?ha ?_); (case hs => first | assumption | exact SqT.of (by tb_rel)); (case hf => rfl); (case ha => first | rfl | decide +kernel | exact flat_strs)))))
local macro_rules | `(tactic| tb_start) => `(tactic| with_reducible refine k_int ?_)
local macro_rules | `(tactic| tb_start) => `(tactic| ((with_reducible refine' And.intro (ty_lst ?ht) ?_); (case ht => tb_rel)))
local macro_rules | `(tactic| tb_start) => `(tactic| ((with_reducible refine' s_aug ?h1 ?_); (case h1 => exact rfl)))
local macro_rules | `(tactic| tb_start) => `(tactic| with_reducible refine r_ip ?_)
local macro_rules | `(tactic| tb_start) => `(tactic| with_reducible refine r_gsub ?_)
local macro_rules | `(tactic| tb_rel) => `(tactic| first | assumption | exact upd_same | ((with_reducible refine look_old ?hl ?hn); (case hn => assumption); (case hl => tb_rel)) | ((with_reducible refine' look_n ?h1 ?nn); (case nn => first | assumption | exact Ne.symm (by assumption)); (case h1 => tb_rel)) | ((with_reducible refine' look_t ?h1 ?h2); (case h2 => tb_rel); (case h1 => tb_rel)) | ((with_reducible refine' look_td ?h1 ?h2); (case h2 => tb_rel); (case h1 => tb_rel)) | ((with_reducible refine' look_ld ?h1 ?h2); (case h2 => tb_rel); (case h1 => tb_rel)) | ((refine Gr.tup (by assumption) _ _ ?hl); (case hl => tb_rel)))
local macro_rules | `(tactic| tb_start) => `(tactic| ((with_reducible refine' r_I ?hc ?_); (case hc => first | exact (show (_ : Int) ≠ 0 by decide) | exact ⟨by decide, by decide⟩ | exact Or.inr ⟨by decide, by decide⟩ | exact ⟨by decide, by decide, by decide⟩)))
local macro_rules | `(tactic| tb_start) => `(tactic| with_reducible refine (Or.inl ⟨_, rfl, ?_⟩ : (∃ j, [V.int _] = [V.int j] ∧ _) ∨ _))
section
variable {P : Program} {w : World} {K : PySem.W.Frag} {mg : Str → Option Value} {base : Heap} {CX : CXT}
/-! ### _law_value -/
abbrev nm_law_value : List Str := ["_law_kind_here", "_law_draw"]
theorem sc_law_value : FnScope nm_law_value ["_law_kind_here", "_law_draw"] (defScope (topS 45)) := ⟨rfl, rfl, rfl, by decide +kernel, rfl, by decide +kernel, by decide +kernel⟩
-- slots: 0:_law_kind_here 1:_law_draw
def spValue : Sp := fun vs H Q _ => ∃ (kv : V) (d : Int) (b : Bd), vs = [kv, .int d] ∧ BdV H kv b ∧ KindOk b ∧ ∀ H' v, Gr no H H' → Gam b v → Q v H'
theorem c_law_value (D : DefAt K mg "_law_value" 45 ["_law_kind_here", "_law_draw"]) (B : Blt mg) : Cal P w K mg base CX0 1 "_law_value" ["_law_kind_here", "_law_draw"] spValue := by
  refine mk0 D sc_law_value (fun vs H Q E h => by obtain ⟨_, _, _, rfl, _⟩ := h; rfl) ?_
  rintro X Q vs H E ⟨f, cdv, A, outer, s, H0, rfl⟩ hr ⟨kv, d, b, rfl, hkv, kb, q⟩
  refine ⟨_, (pss_cons (ps_if (pt_cmpR op_eq (pe_ix ix_tup (pv 0) pe_int (fun _ _ => rfl)) pe_str (nomark _)) (pss_cons (ps_if (pt_cmpR op_eq (pe_op op_modN (pv 1) pe_int) pe_int (nomark _)) (pss_one (ps_ret (pe_ix ix_tup (pv 0) pe_int (fun _ _ => rfl)))) pss_nil)
      (pss_cons (ps_if (pt_cmpR op_eq (pe_op op_modN (pv 1) pe_int) pe_int (nomark _)) (pss_one (ps_ret (pe_ix ix_tup (pv 0) pe_int (fun _ _ => rfl)))) pss_nil)
      (pss_one (ps_ret (pe_op op_add (pe_ix ix_tup (pv 0) pe_int (fun _ _ => rfl)) (pe_op op_modN (pe_op op_fdivN (pv 1) pe_int) (pe_op op_add (pe_op op_sub (pe_ix ix_tup (pv 0) pe_int (fun _ _ => rfl)) (pe_ix ix_tup (pv 0) pe_int (fun _ _ => rfl))) pe_int))))))) pss_nil)
      (pss_cons (ps_if (pt_cmpR op_eq (pe_ix ix_tup (pv 0) pe_int (fun _ _ => rfl)) pe_str (nomark _)) (pss_one (ps_ret (pe_cmpR op_eq (pe_op op_modN (pv 1) pe_int) pe_int (nomark _)))) pss_nil)
      (pss_cons (ps_if (pt_cmpR op_eq (pe_ix ix_tup (pv 0) pe_int (fun _ _ => rfl)) pe_str (nomark _)) (pss_one (ps_ret (pe_ix ix_tup (pe_ix ix_tup (pv 0) pe_int (fun _ _ => rfl)) (pe_op op_modN (pv 1) (pe_callB call_len_seq rfl B.len_ PySem.boot_len (pa_cons (pe_ix ix_tup (pv 0) pe_int (fun _ _ => rfl)) pa_nil))) (fun _ _ => rfl)))) pss_nil)
      (pss_one (ps_ret (pe_slice sl_str (pe_ix ix_list (pe_lst (pa_cons pe_str (pa_cons pe_str (pa_cons pe_str (pa_cons pe_str (pa_cons pe_str pa_nil)))))) (pe_op op_modN (pv 1) pe_int) (fun _ _ => rfl)) po_none (po_some (pe_ix ix_tup (pv 0) pe_int (fun _ _ => rfl))))))))), ?_⟩
  walk_at "K"
  cases b with
  | int lo hi =>
    obtain ⟨a, rfl, ha⟩ := hkv
    obtain ⟨k1, k2, k3⟩ := (show -1000000000 ≤ lo ∧ lo ≤ hi ∧ hi ≤ 1000000000 from kb)
    walk_at "go2"
    refine if_i (fun c1 => ?_) (fun c1 => ?_)
    · walk_at "go2"
      exact q _ _ (Gr.refl _ _) ⟨lo, rfl, Int.le_refl _, k2⟩
    · walk_at "go2"
      refine if_i (fun c2 => ?_) (fun c2 => ?_)
      · walk_at "go2"
        exact q _ _ (Gr.refl _ _) ⟨hi, rfl, k2, Int.le_refl _⟩
      · walk_at "go2"
        have hm := fmod_lo (a := d.fdiv 4) (n := hi - lo + 1) (by omega)
        refine r_I (by omega) ?_
        walk_at "go2"
        exact q _ _ (Gr.refl _ _) ⟨_, rfl, by omega, by omega⟩
  | flag =>
    obtain ⟨a, rfl, ha⟩ := hkv
    walk_at "go2"
    exact q _ _ (Gr.refl _ _) ⟨_, rfl⟩
  | word ws =>
    obtain ⟨a, c, rfl, ha, hc⟩ := hkv
    obtain ⟨k1, k2⟩ := (show WOk ws ∧ ws ≠ [] from kb)
    have hl : 0 < ws.length := List.length_pos_iff.mpr k2
    walk_at "go2"
    refine ⟨c, _, rfl, .inr (SqT.of hc), ?_⟩
    rw [List.length_map]
    walk_at "go2"
    refine r_I (by omega) ?_
    obtain ⟨v, hv, ev⟩ := at_mod (xs := ws.map V.str) (x := d) (n := (ws.length : Int)) (by rw [List.length_map]) (by omega)
    refine r_ixT hc ev ?_
    obtain ⟨s, hs, rfl⟩ := List.mem_map.mp hv
    exact q _ _ (Gr.refl _ _) ⟨s, rfl, hs⟩
  | text n =>
    obtain ⟨a, rfl, ha⟩ := hkv
    obtain ⟨n0, n1⟩ := (show 0 ≤ n ∧ n ≤ 40 from kb)
    walk_at "go2"
    obtain ⟨v, hv, ev⟩ := at_mod (xs := [.str "", .str "a", .str "x y", .str "lost", .str "0123456789012345678901234567890123456789"]) (x := d) (n := 5) rfl (by decide)
    obtain ⟨s, rfl, hs⟩ : ∃ s : Str, v = V.str s ∧ s.length ≤ 40 := by
      simp only [List.mem_cons, List.not_mem_nil, or_false] at hv
      rcases hv with rfl | rfl | rfl | rfl | rfl <;> exact ⟨_, rfl, by decide +kernel⟩
    refine r_ixL upd_same ev ?_
    walk_at "go2"
    exact ⟨_, rfl, sz10 (by omega), q _ _ (by walk_at "gr") ⟨_, rfl, (cutS_len s n n0).2⟩⟩
/-! ### _law_record -/
abbrev nm_law_record : List Str := ["_law_schema_here", "_law_draws_here", "_law_field"]
theorem sc_law_record : FnScope nm_law_record ["_law_schema_here", "_law_draws_here"] (defScope (topS 46)) := ⟨rfl, rfl, rfl, by decide +kernel, rfl, by decide +kernel, by decide +kernel⟩
-- slots: 0:_law_schema_here 1:_law_draws_here 2:_law_field
def spRecord : Sp := fun vs H Q _ => ∃ (sv : V) (a : Addr) (sch : Sch), vs = [sv, .ref a] ∧ SchV H sv sch ∧ DrV H a ∧ ∀ H' p rs, Gr (fun b => b = a) H H' → DrV H' a → H' p = some (.tup rs) → FitS (kinds sch) rs → Q (.ref p) H'
theorem c_law_record (D : DefAt K mg "_law_record" 46 ["_law_schema_here", "_law_draws_here"]) (B : Blt mg) (c_law_next : Cal P w K mg base CX0 1 "_law_next" ["_law_draws_here"] spNext) (c_law_value : Cal P w K mg base CX0 1 "_law_value" ["_law_kind_here", "_law_draw"] spValue) : Cal P w K mg base CX0 2 "_law_record" ["_law_schema_here", "_law_draws_here"] spRecord := by
  refine mk0 D sc_law_record (fun vs H Q E h => by obtain ⟨_, _, _, rfl, _⟩ := h; rfl) ?_
  rintro X Q vs H E ⟨f, cdv, A, outer, s, H0, rfl⟩ hr ⟨sv, a, sch, rfl, ⟨sa, fxs, rfl, hsa, hfl, hkd, _, hs8⟩, hdr, q⟩
  refine ⟨_, (pss_one (ps_ret (pe_callTy call_tuple_of rfl B.tuple_ (by decide +kernel) (pa_cons (pe_lc (own := [("_law_field", 2)]) (g := gName 2) rfl sc_law_record.nd (pi_tup (pv 0)) (blkOk_by (own := [("_law_field", 2)]) (N := nm_law_record) (sc := defScope (topS 46)) (by decide +kernel)) (fun _ _ _ _ _ => (pg_name (i := 2) sc_law_record.nd rfl (Or.inl rfl))) (fun _ _ _ _ _ => pts_nil) (fun _ _ _ _ _ => (pc0 c_law_value hr (by decide) (pa_cons (pe_ix ix_tupB (pv 2) pe_int (fun _ _ => rfl)) (pa_cons (pc0 c_law_next hr (by decide) (pa_cons (pv 1) pa_nil)) pa_nil))))) pa_nil)))), ?_⟩
  walk_at "K"
  walk_at "go2"
  refine r_lc (i_tup ?_)
  walk_at "go2"
  refine ⟨sa, rfl, ⟨_, SqT.of hsa⟩, fun D hD => ?_⟩
  have hDa : ¬ a = D := fun z => hdr.ne hD z.symm
  refine lc_tup (K := K) (a := sa) (xs := fxs) (fun i H' => Gr (fun b => b = a) H H' ∧ DrV H' a ∧ ∃ vs, H' D = some (.lst vs) ∧ FitS ((kinds sch).take i) vs ∧ vs.length = i)
    ⟨Gr.new hD, hdr.gr (x := no) (Gr.new hD) id, [], upd_same, .nil, rfl⟩ (fun i H' _ p => SqT.of (p.1.tup _ _ hsa)) ?_ ?_
  · rintro i x H' hx ⟨g, dr, vs, hvs, hfit, hlen⟩
    refine ⟨rfl, ?_⟩
    refine r_yes ?_
    obtain ⟨fld, hfld, fa, kv, rfl, hfa, hkv⟩ := Paired.getL hfl hx
    have hfa' := g.tup _ _ hfa
    walk_at "go2"
    refine ⟨a, rfl, dr, fun H1 d g1 d1 => ?_⟩
    walk_at "go2"
    refine ⟨kv, d, fld.2, rfl, (hkv.gr g).gr g1, hkd _ (List.mem_of_getElem? hfld), fun H2 v g2 gv => ?_⟩
    have gA : Gr (fun b => b = a) H' H2 := g1.trans g2.any
    have hD2 : H2 D = some (.lst vs) := gA.lst hvs (fun z => hDa z.symm)
    have gC : Gr (fun b => b = D) H2 (upd H2 D (.lst (vs ++ [v]))) := Gr.put hD2 rfl
    have hkk : (kinds sch)[i]? = some fld.2 := by unfold kinds; rw [List.getElem?_map, hfld]; rfl
    have hi8 : i < fxs.length := (List.getElem?_eq_some_iff.mp hx).1
    have lf := hfl.length
    refine ⟨vs, hD2, sz10 (by omega), Gr.own (g.trans gA) hD, (d1.gr g2 id).gr gC hDa, vs ++ [v], upd_same, ?_, by simp; omega⟩
    rw [take_more hkk]
    exact Paired.app hfit (.cons gv .nil)
  · rintro H' ⟨g, dr, vs, hvs, hfit, hlen⟩
    walk_at "go2"
    refine ⟨D, vs, rfl, .inl ⟨SqL.of hvs, fun p hp => ?_⟩⟩
    refine q _ p vs (g.trans (Gr.new hp)) (dr.gr (x := no) (Gr.new hp) id) upd_same ?_
    have lf := hfl.length
    rw [lf, show sch.length = (kinds sch).length by unfold kinds; rw [List.length_map], List.take_length] at hfit
    exact hfit
end
end Snk
set_option Elab.async false
set_option linter.all false
set_option maxRecDepth 100000
set_option maxHeartbeats 4000000
namespace Snk
open PySem PySem.Spec PyProof.Rows L2 GxR GxT
local macro_rules | `(tactic| walk_at "K") => `(tactic| try simp only [ws_K, ws_P, ws_w, cx_K, cx_P, cx_w])
local macro_rules | `(tactic| walk_at "isi") => `(tactic| first
  | with_reducible refine r_isB (.base (.int _)) kk_int_int ?_ | with_reducible refine r_isB (.base (.int _)) kk_int_bool ?_ | with_reducible refine r_isB (.base (.int _)) kk_int_str ?_ | with_reducible refine r_isB (.base (.int _)) kk_int_tuple ?_ | with_reducible refine r_isB (.base (.bl _)) kk_bool_int ?_ | with_reducible refine r_isB (.base (.bl _)) kk_bool_bool ?_ | with_reducible refine r_isB (.base (.bl _)) kk_bool_str ?_ | with_reducible refine r_isB (.base (.bl _)) kk_bool_tuple ?_ | with_reducible refine r_isB (.base (.str _)) kk_str_int ?_ | with_reducible refine r_isB (.base (.str _)) kk_str_bool ?_ | with_reducible refine r_isB (.base (.str _)) kk_str_str ?_ | with_reducible refine r_isB (.base (.str _)) kk_str_tuple ?_ | with_reducible refine r_isB (.base .non) kk_NoneType_int ?_ | with_reducible refine r_isB (.base .non) kk_NoneType_bool ?_ | with_reducible refine r_isB (.base .non) kk_NoneType_str ?_ | with_reducible refine r_isB (.base .non) kk_NoneType_tuple ?_ | with_reducible refine r_isB (.base (.tup (by assumption))) kk_tuple_int ?_ | with_reducible refine r_isB (.base (.tup (by assumption))) kk_tuple_bool ?_ | with_reducible refine r_isB (.base (.tup (by assumption))) kk_tuple_str ?_ | with_reducible refine r_isB (.base (.tup (by assumption))) kk_tuple_tuple ?_)
local macro_rules | `(tactic| tb_rel) => `(tactic| first | assumption | exact upd_same | ((refine look_old ?hl ?hn); (case hn => assumption); (case hl => tb_rel)) | ((refine Gr.tup (by assumption) _ _ ?hl); (case hl => tb_rel)))
local macro_rules | `(tactic| tb_start) => `(tactic| first
  | ((with_reducible refine' r_var ?hvar ?_); (case hvar => exact rfl))
  | with_reducible refine r_c ?_ | with_reducible refine r_op ?_ | with_reducible refine r_un ?_ | with_reducible refine r_chain ?_ | with_reducible refine r_tup ?_ | with_reducible refine r_lst ?_ | with_reducible refine r_cons ?_ | with_reducible refine r_nil ?_ | with_reducible refine r_cb ?_ | with_reducible refine r_call ?_ | with_reducible refine r_bm ?_ | with_reducible refine r_bm0 ?_ | with_reducible refine r_sl ?_ | with_reducible refine r_test ?_ | with_reducible refine r_tb ?_ | with_reducible refine r_tand ?_ | with_reducible refine r_tor ?_ | with_reducible refine r_tnot ?_ | with_reducible refine r_andV ?_ | with_reducible refine r_orV ?_ | with_reducible refine r_notV ?_ | with_reducible refine r_ife ?_ | with_reducible refine s_seq ?_ | with_reducible refine s_nextM ?_ | with_reducible refine s_next ?_ | with_reducible refine s_ret ?_ | with_reducible refine s_if ?_ | with_reducible refine s_asg ?_ | with_reducible refine s_drop ?_ | with_reducible refine s_cont ?_ | with_reducible refine s_break ?_ | with_reducible refine g_name ?_ | with_reducible refine r_I0 ?_ | with_reducible refine r_U ?_ | with_reducible refine k_bl2 ?_ | with_reducible refine r_part ?_ | with_reducible refine r_nopart ?_ | with_reducible refine if_tt ?_ | with_reducible refine if_ff ?_ | with_reducible refine if_nf ?_ | with_reducible refine if_nt ?_
  | ((with_reducible refine' r_eq ?hsc ?_); (case hsc => exact rfl)) | ((with_reducible refine' r_ne ?hsc ?_); (case hsc => exact rfl)) | ((with_reducible refine isi_g ?_); walk_at "isi") | (first | ((with_reducible refine' r_ixT ?hix ?eix ?_); (case hix => tb_rel); (case eix => first | exact at0 | exact at1 | exact at2 | rfl))) | ((with_reducible refine' if_t ?hc ?_); (case hc => decide +kernel)) | ((with_reducible refine' if_f ?hc ?_); (case hc => decide +kernel)))
local macro_rules | `(tactic| walk_at "go") => `(tactic| repeat tb_start)
local macro_rules | `(tactic| walk_at "gr") => `(tactic| first | exact Gr.refl _ _ | assumption | ((refine Gr.trans ?ga (Gr.new ?gn)); (case gn => assumption); (case ga => walk_at "gr")) | ((refine' Gr.trans ?ga ?gb); (case gb => assumption); (case ga => walk_at "gr")))
local macro_rules | `(tactic| walk_at "go2") => `(tactic| repeat (first | tb_start | (((with_reducible refine' And.intro ?hz ?_); (case hz => (refine sz10 ?_; first | decide | (simp; done) | (simp; omega))); intro p hp)) | (first | ((with_reducible refine' r_inT ?hs ?hf ?ha ?_); (case hs => first | assumption | exact SqT.of (by tb_rel)); (case hf => rfl); (case ha => first | rfl | decide +kernel | exact flat_strs)) | ((with_reducible refine' r_niT ?hs ?hf ?ha ?_); (case hs => first | assumption | exact SqT.of (by tb_rel)); (case hf => rfl); (case ha => first | rfl | decide +kernel | exact flat_strs)))))
local macro_rules | `(tactic| tb_start) => `(tactic| with_reducible refine k_int ?_)
local macro_rules | `(tactic| tb_start) => `(tactic| ((with_reducible refine' And.intro (ty_lst ?ht) ?_); (case ht => tb_rel)))
local macro_rules | `(tactic| tb_start) => `(tactic| ((with_reducible refine' s_aug ?h1 ?_); (case h1 => exact rfl)))
local macro_rules | `(tactic| tb_start) => `(tactic| with_reducible refine r_ip ?_)
local macro_rules | `(tactic| tb_start) => `(tactic| with_reducible refine r_gsub ?_)
local macro_rules | `(tactic| tb_rel) => `(tactic| first | assumption | exact upd_same | ((with_reducible refine look_old ?hl ?hn); (case hn => assumption); (case hl => tb_rel)) | ((with_reducible refine' look_n ?h1 ?nn); (case nn => first | assumption | exact Ne.symm (by assumption)); (case h1 => tb_rel)) | ((with_reducible refine' look_t ?h1 ?h2); (case h2 => tb_rel); (case h1 => tb_rel)) | ((with_reducible refine' look_td ?h1 ?h2); (case h2 => tb_rel); (case h1 => tb_rel)) | ((with_reducible refine' look_ld ?h1 ?h2); (case h2 => tb_rel); (case h1 => tb_rel)) | ((refine Gr.tup (by assumption) _ _ ?hl); (case hl => tb_rel)))
local macro_rules | `(tactic| tb_start) => `(tactic| ((with_reducible refine' r_I ?hc ?_); (case hc => first | exact (show (_ : Int) ≠ 0 by decide) | exact ⟨by decide, by decide⟩ | exact Or.inr ⟨by decide, by decide⟩ | exact ⟨by decide, by decide, by decide⟩)))
local macro_rules | `(tactic| tb_start) => `(tactic| with_reducible refine (Or.inl ⟨_, rfl, ?_⟩ : (∃ j, [V.int _] = [V.int j] ∧ _) ∨ _))
/-! ### expressions of the law's language, by shape -/
def HeadOk (h : Str) : Prop := h = "int" ∨ h = "flag" ∨ h = "word" ∨ h = "text"
def LeafK (nms : List Str) (hd : Str) (x : V) : Prop := (hd = "field" ∧ ∃ s, x = .str s ∧ s ∈ nms) ∨ ((hd = "int" ∨ hd = "flag" ∨ hd = "text") ∧ FlS x) ∨ (hd = "word" ∧ ∃ s, x = .str s ∧ s ∈ WRD)
def NODES : List Str := ["pick", "add", "sub", "mul", "min", "max", "less", "same", "and", "or", "not", "join"]
def ExV (nms : List Str) (H : Hp) : Nat → V → Prop
  | 0, _ => False
  | n + 1, v => ∃ a, v = .ref a ∧ ((∃ hd x, H a = some (.tup [.str hd, x]) ∧ LeafK nms hd x) ∨ (∃ hd e k, H a = some (.tup [.str hd, e, .int k]) ∧ (hd = "div" ∨ hd = "mod" ∨ hd = "cut") ∧ ExV nms H n e) ∨
      (∃ hd es, H a = some (.tup (.str hd :: es)) ∧ hd ∈ NODES ∧ 1 ≤ es.length ∧ es.length ≤ 3 ∧ ∀ e ∈ es, ExV nms H n e))
theorem ExV.gr {nms : List Str} {x : Addr → Prop} {H H' : Hp} (g : Gr x H H') : ∀ {n : Nat} {v : V}, ExV nms H n v → ExV nms H' n v
  | 0, _, h => h.elim
  | n + 1, v, ⟨a, e, h⟩ => ⟨a, e, by
    rcases h with ⟨hd, x, h1, h2⟩ | ⟨hd, y, k, h1, h2, h3⟩ | ⟨hd, es, h1, h2, h3, h4, h5⟩
    · exact .inl ⟨hd, x, g.tup _ _ h1, h2⟩
    · exact .inr (.inl ⟨hd, y, k, g.tup _ _ h1, h2, ExV.gr g h3⟩)
    · exact .inr (.inr ⟨hd, es, g.tup _ _ h1, h2, h3, h4, fun e he => ExV.gr g (h5 e he)⟩)⟩
theorem ExV.up {nms : List Str} {H : Hp} : ∀ {n : Nat} {v : V}, ExV nms H n v → ExV nms H (n + 1) v
  | 0, _, h => h.elim
  | n + 1, v, ⟨a, e, h⟩ => ⟨a, e, by
    rcases h with ⟨hd, x, h1, h2⟩ | ⟨hd, y, k, h1, h2, h3⟩ | ⟨hd, es, h1, h2, h3, h4, h5⟩
    · exact .inl ⟨hd, x, h1, h2⟩
    · exact .inr (.inl ⟨hd, y, k, h1, h2, ExV.up h3⟩)
    · exact .inr (.inr ⟨hd, es, h1, h2, h3, h4, fun e he => ExV.up (h5 e he)⟩)⟩
theorem ExV.upTo {nms : List Str} {H : Hp} {n m : Nat} {v : V} (h : ExV nms H n v) (l : n ≤ m) : ExV nms H m v := by
  obtain ⟨k, rfl⟩ := Nat.exists_eq_add_of_le l
  clear l
  induction k with
  | zero => exact h
  | succ k ih => exact ih.up
def namesOf (s : Sch) : List Str := s.map (·.1)
section
variable {P : Program} {w : World} {K : PySem.W.Frag} {mg : Str → Option Value} {base : Heap} {CX : CXT}
/-! ### _law_leaf -/
abbrev nm_law_leaf : List Str := ["_law_schema_here", "_law_head", "_law_draw", "_law_names", "_law_field"]
theorem sc_law_leaf : FnScope nm_law_leaf ["_law_schema_here", "_law_head", "_law_draw"] (defScope (topS 47)) := ⟨rfl, rfl, rfl, by decide +kernel, rfl, by decide +kernel, by decide +kernel⟩
-- slots: 0:_law_schema_here 1:_law_head 2:_law_draw 3:_law_names 4:_law_field
def spLeaf : Sp := fun vs H Q _ => ∃ (sv : V) (hd : Str) (d : Int) (sch : Sch), vs = [sv, .str hd, .int d] ∧ SchV H sv sch ∧ HeadOk hd ∧ ∀ H' u, Gr no H H' → ExV (namesOf sch) H' 1 u → Q u H'
theorem c_law_leaf (D : DefAt K mg "_law_leaf" 47 ["_law_schema_here", "_law_head", "_law_draw"]) (B : Blt mg) : Cal P w K mg base CX0 1 "_law_leaf" ["_law_schema_here", "_law_head", "_law_draw"] spLeaf := by
  refine mk0 D sc_law_leaf (fun vs H Q E h => by obtain ⟨_, _, _, _, rfl, _⟩ := h; rfl) ?_
  rintro X Q vs H E ⟨f, cdv, A, outer, s, H0, rfl⟩ hr ⟨sv, hd, d, sch, rfl, ⟨sa, fxs, rfl, hsa, hfl, hkd, _, hs8⟩, hh, q⟩
  refine ⟨_, (pss_cons (ps_setLc (i := 3) (own := [("_law_field", 4)]) (g := gName 4) rfl sc_law_leaf.nd rfl rfl (sw_true rfl rfl rfl (by decide +kernel)) (pi_tup (pv 0)) (blkOk_by (own := [("_law_field", 4)]) (N := nm_law_leaf) (sc := defScope (topS 47)) (by decide +kernel)) (fun _ _ _ _ _ => (pg_name (i := 4) sc_law_leaf.nd rfl (Or.inl rfl))) (fun _ _ _ _ _ => (pts_one (pt_cmpR op_eq (pe_ix ix_tupB (pe_ix ix_tupB (pv 4) pe_int (fun _ _ => rfl)) pe_int (fun _ _ => rfl)) (pv 1) (nomark _)))) (fun _ _ _ _ _ => (pe_ix ix_tupB (pv 4) pe_int (fun _ _ => rfl))))
      (pss_cons (ps_if (PW.pt (pw_and (pt_cmpR op_gt (pe_callB call_len_seq rfl B.len_ PySem.boot_len (pa_cons (pv 3) pa_nil)) pe_int (nomark _)) (pw_and1 (pt_cmpR op_gt (pe_op op_modN (pv 2) pe_int) pe_int (nomark _))))) (pss_one (ps_ret (pe_tup (pa_cons pe_str (pa_cons (pe_ix ix_list (pv 3) (pe_op op_modN (pe_op op_fdivN (pv 2) pe_int) (pe_callB call_len_seq rfl B.len_ PySem.boot_len (pa_cons (pv 3) pa_nil))) (fun _ _ => rfl)) pa_nil))))) pss_nil)
      (pss_cons (ps_if (pt_cmpR op_eq (pv 1) pe_str (nomark _)) (pss_one (ps_ret (pe_tup (pa_cons pe_str (pa_cons (pe_ix ix_list (pe_lst (pa_cons pe_int (pa_cons pe_int (pa_cons (pe_un un_neg pe_int) (pa_cons pe_int (pa_cons (pe_un un_neg pe_int) (pa_cons pe_int (pa_cons pe_int pa_nil)))))))) (pe_op op_modN (pe_op op_fdivN (pv 2) pe_int) pe_int) (fun _ _ => rfl)) pa_nil))))) pss_nil)
      (pss_cons (ps_if (pt_cmpR op_eq (pv 1) pe_str (nomark _)) (pss_one (ps_ret (pe_tup (pa_cons pe_str (pa_cons (pe_cmpR op_eq (pe_op op_modN (pe_op op_fdivN (pv 2) pe_int) pe_int) pe_int (nomark _)) pa_nil))))) pss_nil)
      (pss_cons (ps_if (pt_cmpR op_eq (pv 1) pe_str (nomark _)) (pss_one (ps_ret (pe_tup (pa_cons pe_str (pa_cons (pe_ix ix_list (pe_lst (pa_cons pe_str (pa_cons pe_str (pa_cons pe_str (pa_cons pe_str pa_nil))))) (pe_op op_modN (pe_op op_fdivN (pv 2) pe_int) pe_int) (fun _ _ => rfl)) pa_nil))))) pss_nil)
      (pss_one (ps_ret (pe_tup (pa_cons pe_str (pa_cons (pe_ix ix_list (pe_lst (pa_cons pe_str (pa_cons pe_str (pa_cons pe_str (pa_cons pe_str pa_nil))))) (pe_op op_modN (pe_op op_fdivN (pv 2) pe_int) pe_int) (fun _ _ => rfl)) pa_nil)))))))))), ?_⟩
  walk_at "K"
  walk_at "go2"
  refine r_lc (i_tup ?_)
  walk_at "go2"
  refine ⟨sa, rfl, ⟨_, SqT.of hsa⟩, fun D hD => ?_⟩
  have lf := hfl.length
  refine lc_tup (K := K) (a := sa) (xs := fxs) (fun i H' => Gr no H H' ∧ ∃ ns : List Str, H' D = some (.lst (ns.map V.str)) ∧ (∀ s ∈ ns, s ∈ namesOf sch) ∧ ns.length ≤ i)
    ⟨Gr.new hD, [], upd_same, (fun x hx => nomatch hx), Nat.le_refl _⟩ (fun i H' _ p => SqT.of (p.1.tup _ _ hsa)) ?_ ?_
  · rintro i x H' hx ⟨g, ns, hns, hin, hlen⟩
    refine ⟨rfl, ?_⟩
    obtain ⟨fld, hfld, fa, kv, rfl, hfa, hkv⟩ := Paired.getL hfl hx
    obtain ⟨kp, kr, rfl, hkp⟩ := (hkv.gr g).hd
    have hfa' := g.tup _ _ hfa
    have hi8 : i < fxs.length := (List.getElem?_eq_some_iff.mp hx).1
    walk_at "go2"
    refine if_s (fun c1 => ?_) (fun c1 => ?_)
    · walk_at "go2"
      refine ⟨_, hns, sz10 (by rw [List.length_map]; omega), Gr.own g hD, ns ++ [fld.1], by rw [upd_same, List.map_append]; rfl, fun s hs => ?_, by rw [List.length_append]; simp; omega⟩
      rcases List.mem_append.mp hs with z | z
      · exact hin s z
      · rw [List.mem_singleton] at z
        rw [z]
        exact List.mem_map.mpr ⟨fld, List.mem_of_getElem? hfld, rfl⟩
    · exact ⟨g, ns, hns, hin, by omega⟩
  · rintro H' ⟨g, ns, hns, hin, hlen⟩
    walk_at "go2"
    refine ⟨D, _, rfl, .inl (SqL.of hns), ?_⟩
    rw [List.length_map]
    walk_at "go2"
    have lf1 : ∀ {H2 : Hp} {p : Addr} {h : Str} {x : V}, H2 p = some (.tup [.str h, x]) → LeafK (namesOf sch) h x → ExV (namesOf sch) H2 1 (.ref p) := fun e k => ⟨_, rfl, .inl ⟨_, _, e, k⟩⟩
    refine if_dec (fun c1 => ?_) (fun c1 => ?_)
    · walk_at "go2"
      refine if_dec (fun c2 => ?_) (fun c2 => ?_)
      · walk_at "go2"
        refine ⟨D, _, rfl, .inl (SqL.of hns), ?_⟩
        rw [List.length_map]
        walk_at "go2"
        refine r_I (by omega) ?_
        obtain ⟨v, hv, ev⟩ := at_mod (xs := ns.map V.str) (x := d.fdiv 3) (n := (ns.length : Int)) (by rw [List.length_map]) (by omega)
        refine r_ixL hns ev ?_
        obtain ⟨s, hs, rfl⟩ := List.mem_map.mp hv
        walk_at "go2"
        exact q _ _ (g.trans (Gr.new (by assumption))) (lf1 upd_same (.inl ⟨rfl, s, rfl, hin s hs⟩))
      · rcases hh with rfl | rfl | rfl | rfl
        · walk_at "go2"
          obtain ⟨v, hv, ev⟩ := at_mod (xs := [.int 0, .int 1, .int (-1), .int 7, .int (-12), .int 1000000000, .int 50]) (x := d.fdiv 3) (n := 7) rfl (by decide)
          refine r_ixL upd_same ev ?_
          walk_at "go2"
          refine q _ _ (by walk_at "gr") (lf1 upd_same (.inr (.inl ⟨.inl rfl, ?_⟩)))
          simp only [List.mem_cons, List.not_mem_nil, or_false] at hv
          rcases hv with rfl | rfl | rfl | rfl | rfl | rfl | rfl <;> trivial
        · walk_at "go2"
          exact q _ _ (by walk_at "gr") (lf1 upd_same (.inr (.inl ⟨.inr (.inl rfl), trivial⟩)))
        · walk_at "go2"
          obtain ⟨v, hv, ev⟩ := at_mod (xs := [.str "new", .str "old", .str "lost", .str "zz"]) (x := d.fdiv 3) (n := 4) rfl (by decide)
          refine r_ixL upd_same ev ?_
          walk_at "go2"
          refine q _ _ (by walk_at "gr") (lf1 upd_same (.inr (.inr ⟨rfl, ?_⟩)))
          simp only [List.mem_cons, List.not_mem_nil, or_false] at hv
          rcases hv with rfl | rfl | rfl | rfl <;> exact ⟨_, rfl, by decide +kernel⟩
        · walk_at "go2"
          obtain ⟨v, hv, ev⟩ := at_mod (xs := [.str "", .str "ab", .str "x y;{", .str "q'1"]) (x := d.fdiv 3) (n := 4) rfl (by decide)
          refine r_ixL upd_same ev ?_
          walk_at "go2"
          refine q _ _ (by walk_at "gr") (lf1 upd_same (.inr (.inl ⟨.inr (.inr rfl), ?_⟩)))
          simp only [List.mem_cons, List.not_mem_nil, or_false] at hv
          rcases hv with rfl | rfl | rfl | rfl <;> exact (show Str.length _ ≤ 1000 by decide +kernel)
    · rcases hh with rfl | rfl | rfl | rfl
      · walk_at "go2"
        obtain ⟨v, hv, ev⟩ := at_mod (xs := [.int 0, .int 1, .int (-1), .int 7, .int (-12), .int 1000000000, .int 50]) (x := d.fdiv 3) (n := 7) rfl (by decide)
        refine r_ixL upd_same ev ?_
        walk_at "go2"
        refine q _ _ (by walk_at "gr") (lf1 upd_same (.inr (.inl ⟨.inl rfl, ?_⟩)))
        simp only [List.mem_cons, List.not_mem_nil, or_false] at hv
        rcases hv with rfl | rfl | rfl | rfl | rfl | rfl | rfl <;> trivial
      · walk_at "go2"
        exact q _ _ (by walk_at "gr") (lf1 upd_same (.inr (.inl ⟨.inr (.inl rfl), trivial⟩)))
      · walk_at "go2"
        obtain ⟨v, hv, ev⟩ := at_mod (xs := [.str "new", .str "old", .str "lost", .str "zz"]) (x := d.fdiv 3) (n := 4) rfl (by decide)
        refine r_ixL upd_same ev ?_
        walk_at "go2"
        refine q _ _ (by walk_at "gr") (lf1 upd_same (.inr (.inr ⟨rfl, ?_⟩)))
        simp only [List.mem_cons, List.not_mem_nil, or_false] at hv
        rcases hv with rfl | rfl | rfl | rfl <;> exact ⟨_, rfl, by decide +kernel⟩
      · walk_at "go2"
        obtain ⟨v, hv, ev⟩ := at_mod (xs := [.str "", .str "ab", .str "x y;{", .str "q'1"]) (x := d.fdiv 3) (n := 4) rfl (by decide)
        refine r_ixL upd_same ev ?_
        walk_at "go2"
        refine q _ _ (by walk_at "gr") (lf1 upd_same (.inr (.inl ⟨.inr (.inr rfl), ?_⟩)))
        simp only [List.mem_cons, List.not_mem_nil, or_false] at hv
        rcases hv with rfl | rfl | rfl | rfl <;> exact (show Str.length _ ≤ 1000 by decide +kernel)
end
end Snk
set_option Elab.async false
set_option linter.all false
set_option maxRecDepth 100000
set_option maxHeartbeats 4000000
namespace Snk
open PySem PySem.Spec PyProof.Rows L2 GxR GxT
local macro_rules | `(tactic| walk_at "K") => `(tactic| try simp only [ws_K, ws_P, ws_w, cx_K, cx_P, cx_w])
local macro_rules | `(tactic| walk_at "isi") => `(tactic| first
  | with_reducible refine r_isB (.base (.int _)) kk_int_int ?_ | with_reducible refine r_isB (.base (.int _)) kk_int_bool ?_ | with_reducible refine r_isB (.base (.int _)) kk_int_str ?_ | with_reducible refine r_isB (.base (.int _)) kk_int_tuple ?_ | with_reducible refine r_isB (.base (.bl _)) kk_bool_int ?_ | with_reducible refine r_isB (.base (.bl _)) kk_bool_bool ?_ | with_reducible refine r_isB (.base (.bl _)) kk_bool_str ?_ | with_reducible refine r_isB (.base (.bl _)) kk_bool_tuple ?_ | with_reducible refine r_isB (.base (.str _)) kk_str_int ?_ | with_reducible refine r_isB (.base (.str _)) kk_str_bool ?_ | with_reducible refine r_isB (.base (.str _)) kk_str_str ?_ | with_reducible refine r_isB (.base (.str _)) kk_str_tuple ?_ | with_reducible refine r_isB (.base .non) kk_NoneType_int ?_ | with_reducible refine r_isB (.base .non) kk_NoneType_bool ?_ | with_reducible refine r_isB (.base .non) kk_NoneType_str ?_ | with_reducible refine r_isB (.base .non) kk_NoneType_tuple ?_ | with_reducible refine r_isB (.base (.tup (by assumption))) kk_tuple_int ?_ | with_reducible refine r_isB (.base (.tup (by assumption))) kk_tuple_bool ?_ | with_reducible refine r_isB (.base (.tup (by assumption))) kk_tuple_str ?_ | with_reducible refine r_isB (.base (.tup (by assumption))) kk_tuple_tuple ?_)
local macro_rules | `(tactic| tb_rel) => `(tactic| first | assumption | exact upd_same | ((refine look_old ?hl ?hn); (case hn => assumption); (case hl => tb_rel)) | ((refine Gr.tup (by assumption) _ _ ?hl); (case hl => tb_rel)))
local macro_rules | `(tactic| tb_start) => `(tactic| first
  | ((with_reducible refine' r_var ?hvar ?_); (case hvar => exact rfl))
  | with_reducible refine r_c ?_ | with_reducible refine r_op ?_ | with_reducible refine r_un ?_ | with_reducible refine r_chain ?_ | with_reducible refine r_tup ?_ | with_reducible refine r_lst ?_ | with_reducible refine r_cons ?_ | with_reducible refine r_nil ?_ | with_reducible refine r_cb ?_ | with_reducible refine r_call ?_ | with_reducible refine r_bm ?_ | with_reducible refine r_bm0 ?_ | with_reducible refine r_sl ?_ | with_reducible refine r_test ?_ | with_reducible refine r_tb ?_ | with_reducible refine r_tand ?_ | with_reducible refine r_tor ?_ | with_reducible refine r_tnot ?_ | with_reducible refine r_andV ?_ | with_reducible refine r_orV ?_ | with_reducible refine r_notV ?_ | with_reducible refine r_ife ?_ | with_reducible refine s_seq ?_ | with_reducible refine s_nextM ?_ | with_reducible refine s_next ?_ | with_reducible refine s_ret ?_ | with_reducible refine s_if ?_ | with_reducible refine s_asg ?_ | with_reducible refine s_drop ?_ | with_reducible refine s_cont ?_ | with_reducible refine s_break ?_ | with_reducible refine g_name ?_ | with_reducible refine r_I0 ?_ | with_reducible refine r_U ?_ | with_reducible refine k_bl2 ?_ | with_reducible refine r_part ?_ | with_reducible refine r_nopart ?_ | with_reducible refine if_tt ?_ | with_reducible refine if_ff ?_ | with_reducible refine if_nf ?_ | with_reducible refine if_nt ?_
  | ((with_reducible refine' r_eq ?hsc ?_); (case hsc => exact rfl)) | ((with_reducible refine' r_ne ?hsc ?_); (case hsc => exact rfl)) | ((with_reducible refine isi_g ?_); walk_at "isi") | (first | ((with_reducible refine' r_ixT ?hix ?eix ?_); (case hix => tb_rel); (case eix => first | exact at0 | exact at1 | exact at2 | rfl))) | ((with_reducible refine' if_t ?hc ?_); (case hc => decide +kernel)) | ((with_reducible refine' if_f ?hc ?_); (case hc => decide +kernel)))
local macro_rules | `(tactic| walk_at "go") => `(tactic| repeat tb_start)
local macro_rules | `(tactic| walk_at "gr") => `(tactic| first | exact Gr.refl _ _ | assumption | ((refine Gr.trans ?ga (Gr.new ?gn)); (case gn => assumption); (case ga => walk_at "gr")) | ((refine' Gr.trans ?ga ?gb); (case gb => assumption); (case ga => walk_at "gr")))
local macro_rules | `(tactic| walk_at "go2") => `(tactic| repeat (first | tb_start | (((with_reducible refine' And.intro ?hz ?_); (case hz => (refine sz10 ?_; first | decide | (simp; done) | (simp; omega))); intro p hp)) | (first | ((with_reducible refine' r_inT ?hs ?hf ?ha ?_); (case hs => first | assumption | exact SqT.of (by tb_rel)); (case hf => rfl); (case ha => first | rfl | decide +kernel | exact flat_strs)) | ((with_reducible refine' r_niT ?hs ?hf ?ha ?_); (case hs => first | assumption | exact SqT.of (by tb_rel)); (case hf => rfl); (case ha => first | rfl | decide +kernel | exact flat_strs)))))
local macro_rules | `(tactic| tb_start) => `(tactic| with_reducible refine k_int ?_)
local macro_rules | `(tactic| tb_start) => `(tactic| ((with_reducible refine' And.intro (ty_lst ?ht) ?_); (case ht => tb_rel)))
local macro_rules | `(tactic| tb_start) => `(tactic| ((with_reducible refine' s_aug ?h1 ?_); (case h1 => exact rfl)))
local macro_rules | `(tactic| tb_start) => `(tactic| with_reducible refine r_ip ?_)
local macro_rules | `(tactic| tb_start) => `(tactic| with_reducible refine r_gsub ?_)
local macro_rules | `(tactic| tb_rel) => `(tactic| first | assumption | exact upd_same | ((with_reducible refine look_old ?hl ?hn); (case hn => assumption); (case hl => tb_rel)) | ((with_reducible refine' look_n ?h1 ?nn); (case nn => first | assumption | exact Ne.symm (by assumption)); (case h1 => tb_rel)) | ((with_reducible refine' look_t ?h1 ?h2); (case h2 => tb_rel); (case h1 => tb_rel)) | ((with_reducible refine' look_td ?h1 ?h2); (case h2 => tb_rel); (case h1 => tb_rel)) | ((with_reducible refine' look_ld ?h1 ?h2); (case h2 => tb_rel); (case h1 => tb_rel)) | ((refine Gr.tup (by assumption) _ _ ?hl); (case hl => tb_rel)))
local macro_rules | `(tactic| tb_start) => `(tactic| ((with_reducible refine' r_I ?hc ?_); (case hc => first | exact (show (_ : Int) ≠ 0 by decide) | exact ⟨by decide, by decide⟩ | exact Or.inr ⟨by decide, by decide⟩ | exact ⟨by decide, by decide, by decide⟩)))
local macro_rules | `(tactic| tb_start) => `(tactic| with_reducible refine (Or.inl ⟨_, rfl, ?_⟩ : (∃ j, [V.int _] = [V.int j] ∧ _) ∨ _))
section
variable {P : Program} {w : World} {K : PySem.W.Frag} {mg : Str → Option Value} {base : Heap} {CX : CXT}
/-! ### _law_expression -/
abbrev nm_law_expression : List Str := ["_law_schema_here", "_law_head", "_law_draws_here", "_law_depth", "_law_draw", "_law_kind_here", "_law_parts", "_law_sign", "_law_first"]
theorem sc_law_expression : FnScope nm_law_expression ["_law_schema_here", "_law_head", "_law_draws_here", "_law_depth"] (defScope (topS 48)) := ⟨rfl, rfl, rfl, by decide +kernel, rfl, by decide +kernel, by decide +kernel⟩
-- slots: 0:_law_schema_here 1:_law_head 2:_law_draws_here 3:_law_depth 4:_law_draw 5:_law_kind_here 6:_law_parts 7:_law_sign 8:_law_first
def spExpr (d : Nat) : Sp := fun vs H Q _ => ∃ (sv : V) (hd : Str) (a : Addr) (dep : Int) (sch : Sch), vs = [sv, .str hd, .ref a, .int dep] ∧ dep = (d : Int) ∧ SchV H sv sch ∧ HeadOk hd ∧ DrV H a ∧ ∀ H' u, Gr (fun b => b = a) H H' → DrV H' a → ExV (namesOf sch) H' (d + 1) u → Q u H'
def spExprB (n : Nat) : Sp := fun vs H Q E => ∃ d, d ≤ n ∧ spExpr d vs H Q E
abbrev cExpr (P : Program) (w : World) (K : PySem.W.Frag) (mg : Str → Option Value) (base : Heap) (k : Nat) (sp : Sp) : Prop := Cal P w K mg base CX0 k "_law_expression" ["_law_schema_here", "_law_head", "_law_draws_here", "_law_depth"] sp
abbrev dExpr (K : PySem.W.Frag) (mg : Str → Option Value) : Prop := DefAt K mg "_law_expression" 48 ["_law_schema_here", "_law_head", "_law_draws_here", "_law_depth"]
theorem c_expr0 (D : dExpr K mg) (B : Blt mg) (c_law_next : Cal P w K mg base CX0 1 "_law_next" ["_law_draws_here"] spNext) (c_law_leaf : Cal P w K mg base CX0 1 "_law_leaf" ["_law_schema_here", "_law_head", "_law_draw"] spLeaf) : cExpr P w K mg base 2 (spExprB 0) := by
  have c_law_expression : cExpr P w K mg base 0 (fun _ _ _ _ => False) := cal_no D
  refine mk0 D sc_law_expression (fun vs H Q E h => by obtain ⟨_, _, _, _, _, _, _, rfl, _⟩ := h; rfl) ?_
  rintro X Q vs H E ⟨f, cdv, A, outer, s, H0, rfl⟩ hr ⟨d0, hd0, sv, hd, a, dep, sch, rfl, rfl, hsch, hh, hdr, q⟩
  obtain rfl : d0 = 0 := by omega
  refine ⟨_, (pss_cons (ps_set (i := 4) sc_law_expression.nd rfl (Or.inl rfl) (pc0 c_law_next hr (by omega) (pa_cons (pv 2) pa_nil)))
      (pss_cons (ps_if (PW.pt (pw_or (pt_cmpR op_eq (pv 3) pe_int (nomark _)) (pw_or (pt_cmpR op_eq (pe_op op_modN (pv 4) pe_int) pe_int (nomark _)) (pw_or1 (pt_cmpR op_eq (pe_callB call_len_seq rfl B.len_ PySem.boot_len (pa_cons (pv 2) pa_nil)) pe_int (nomark _)))))) (pss_one (ps_ret (pc0 c_law_leaf hr (by omega) (pa_cons (pv 0) (pa_cons (pv 1) (pa_cons (pe_op op_fdivN (pv 4) pe_int) pa_nil)))))) pss_nil)
      (pss_cons (ps_if (pt_cmpR op_eq (pe_op op_modN (pv 4) pe_int) pe_int (nomark _)) (pss_cons (ps_setLc (i := 6) (own := [("_law_kind_here", 5)]) (g := gName 5) rfl sc_law_expression.nd rfl rfl (sw_true rfl rfl rfl (by decide +kernel)) (pi_list (pe_lst (pa_cons pe_str (pa_cons (pv 1) (pa_cons (pv 1) pa_nil))))) (blkOk_by (own := [("_law_kind_here", 5)]) (N := nm_law_expression) (sc := defScope (topS 48)) (by decide +kernel)) (fun _ _ _ _ _ => (pg_name (i := 5) sc_law_expression.nd rfl (Or.inl rfl))) (fun _ _ _ _ _ => pts_nil) (fun _ _ _ _ _ => (pc0 c_law_expression hr (by omega) (pa_cons (pv 0) (pa_cons (pv 5) (pa_cons (pv 2) (pa_cons (pe_op op_sub (pv 3) pe_int) pa_nil)))))))
      (pss_one (ps_ret (pe_tup (pa_cons pe_str (pa_cons (pe_ix ix_list (pv 6) pe_int (fun _ _ => rfl)) (pa_cons (pe_ix ix_list (pv 6) pe_int (fun _ _ => rfl)) (pa_cons (pe_ix ix_list (pv 6) pe_int (fun _ _ => rfl)) pa_nil)))))))) pss_nil)
      (pss_cons (ps_if (pt_cmpR op_eq (pv 1) pe_str (nomark _)) (pss_cons (ps_if (pt_cmpR op_gt (pe_op op_modN (pe_op op_fdivN (pv 4) pe_int) pe_int) pe_int (nomark _)) (pss_cons (ps_set (i := 7) sc_law_expression.nd rfl (Or.inl rfl) (pe_ix ix_list (pe_lst (pa_cons pe_str (pa_cons pe_str pa_nil))) (pe_op op_modN (pe_op op_fdivN (pv 4) pe_int) pe_int) (fun _ _ => rfl)))
      (pss_one (ps_ret (pe_tup (pa_cons (pv 7) (pa_cons (pc0 c_law_expression hr (by omega) (pa_cons (pv 0) (pa_cons pe_str (pa_cons (pv 2) (pa_cons (pe_op op_sub (pv 3) pe_int) pa_nil))))) (pa_cons (pe_op op_add pe_int (pe_op op_modN (pe_op op_fdivN (pv 4) pe_int) pe_int)) pa_nil))))))) pss_nil)
      (pss_cons (ps_set (i := 7) sc_law_expression.nd rfl (Or.inl rfl) (pe_ix ix_list (pe_lst (pa_cons pe_str (pa_cons pe_str (pa_cons pe_str (pa_cons pe_str (pa_cons pe_str (pa_cons pe_str pa_nil))))))) (pe_op op_modN (pe_op op_fdivN (pv 4) pe_int) pe_int) (fun _ _ => rfl)))
      (pss_cons (ps_set (i := 8) sc_law_expression.nd rfl (Or.inl rfl) (pc0 c_law_expression hr (by omega) (pa_cons (pv 0) (pa_cons pe_str (pa_cons (pv 2) (pa_cons (pe_op op_sub (pv 3) pe_int) pa_nil))))))
      (pss_one (ps_ret (pe_tup (pa_cons (pv 7) (pa_cons (pv 8) (pa_cons (pc0 c_law_expression hr (by omega) (pa_cons (pv 0) (pa_cons pe_str (pa_cons (pv 2) (pa_cons (pe_op op_sub (pv 3) pe_int) pa_nil))))) pa_nil))))))))) pss_nil)
      (pss_cons (ps_if (pt_cmpR op_eq (pv 1) pe_str (nomark _)) (pss_cons (ps_if (pt_cmpR op_eq (pe_op op_modN (pe_op op_fdivN (pv 4) pe_int) pe_int) pe_int (nomark _)) (pss_one (ps_ret (pe_tup (pa_cons pe_str (pa_cons (pc0 c_law_expression hr (by omega) (pa_cons (pv 0) (pa_cons pe_str (pa_cons (pv 2) (pa_cons (pe_op op_sub (pv 3) pe_int) pa_nil))))) pa_nil))))) pss_nil)
      (pss_cons (ps_set (i := 7) sc_law_expression.nd rfl (Or.inl rfl) (pe_ix ix_list (pe_lst (pa_cons pe_str (pa_cons pe_str (pa_cons pe_str (pa_cons pe_str pa_nil))))) (pe_op op_modN (pe_op op_fdivN (pv 4) pe_int) pe_int) (fun _ _ => rfl)))
      (pss_cons (ps_set (i := 5) sc_law_expression.nd rfl (Or.inl rfl) pe_str)
      (pss_cons (ps_if (pt_cmpR op_eq (pv 7) pe_str (nomark _)) (pss_one (ps_set (i := 5) sc_law_expression.nd rfl (Or.inl rfl) pe_str)) pss_nil)
      (pss_cons (ps_if (pt_cmpR op_eq (pv 7) pe_str (nomark _)) (pss_one (ps_set (i := 5) sc_law_expression.nd rfl (Or.inl rfl) (pe_ix ix_list (pe_lst (pa_cons pe_str (pa_cons pe_str (pa_cons pe_str (pa_cons pe_str pa_nil))))) (pe_op op_modN (pe_op op_fdivN (pv 4) pe_int) pe_int) (fun _ _ => rfl)))) pss_nil)
      (pss_cons (ps_set (i := 8) sc_law_expression.nd rfl (Or.inl rfl) (pc0 c_law_expression hr (by omega) (pa_cons (pv 0) (pa_cons (pv 5) (pa_cons (pv 2) (pa_cons (pe_op op_sub (pv 3) pe_int) pa_nil))))))
      (pss_one (ps_ret (pe_tup (pa_cons (pv 7) (pa_cons (pv 8) (pa_cons (pc0 c_law_expression hr (by omega) (pa_cons (pv 0) (pa_cons (pv 5) (pa_cons (pv 2) (pa_cons (pe_op op_sub (pv 3) pe_int) pa_nil))))) pa_nil)))))))))))) pss_nil)
      (pss_cons (ps_if (pt_cmpR op_eq (pv 1) pe_str (nomark _)) (pss_cons (ps_if (pt_cmpR op_eq (pe_op op_modN (pe_op op_fdivN (pv 4) pe_int) pe_int) pe_int (nomark _)) (pss_one (ps_ret (pe_tup (pa_cons pe_str (pa_cons (pc0 c_law_expression hr (by omega) (pa_cons (pv 0) (pa_cons pe_str (pa_cons (pv 2) (pa_cons (pe_op op_sub (pv 3) pe_int) pa_nil))))) (pa_cons (pe_op op_modN (pe_op op_fdivN (pv 4) pe_int) pe_int) pa_nil)))))) pss_nil)
      (pss_cons (ps_set (i := 8) sc_law_expression.nd rfl (Or.inl rfl) (pc0 c_law_expression hr (by omega) (pa_cons (pv 0) (pa_cons pe_str (pa_cons (pv 2) (pa_cons (pe_op op_sub (pv 3) pe_int) pa_nil))))))
      (pss_one (ps_ret (pe_tup (pa_cons pe_str (pa_cons (pv 8) (pa_cons (pc0 c_law_expression hr (by omega) (pa_cons (pv 0) (pa_cons pe_str (pa_cons (pv 2) (pa_cons (pe_op op_sub (pv 3) pe_int) pa_nil))))) pa_nil)))))))) pss_nil)
      (pss_one (ps_ret (pc0 c_law_leaf hr (by omega) (pa_cons (pv 0) (pa_cons (pv 1) (pa_cons (pe_op op_fdivN (pv 4) pe_int) pa_nil)))))))))))), ?_⟩
  walk_at "K"
  walk_at "go2"
  refine ⟨a, rfl, hdr, fun H1 d g1 d1 => ?_⟩
  walk_at "go2"
  refine ⟨sv, hd, _, sch, rfl, hsch.gr g1, hh, fun H2 u g2 hu => ?_⟩
  exact q H2 u (g1.trans g2.any) (d1.gr g2 id) hu
set_option maxHeartbeats 16000000 in
theorem c_exprS (n : Nat) (D : dExpr K mg) (B : Blt mg) (c_law_next : Cal P w K mg base CX0 1 "_law_next" ["_law_draws_here"] spNext) (c_law_leaf : Cal P w K mg base CX0 1 "_law_leaf" ["_law_schema_here", "_law_head", "_law_draw"] spLeaf) (c_law_expression : cExpr P w K mg base (n + 2) (spExprB n)) : cExpr P w K mg base (n + 3) (spExprB (n + 1)) := by
  refine mk0 D sc_law_expression (fun vs H Q E h => by obtain ⟨_, _, _, _, _, _, _, rfl, _⟩ := h; rfl) ?_
  rintro X Q vs H E ⟨f, cdv, A, outer, s, H0, rfl⟩ hr ⟨d0, hd0, sv, hd, a, dep, sch, rfl, rfl, hsch, hh, hdr, q⟩
  refine ⟨_, (pss_cons (ps_set (i := 4) sc_law_expression.nd rfl (Or.inl rfl) (pc0 c_law_next hr (by omega) (pa_cons (pv 2) pa_nil)))
      (pss_cons (ps_if (PW.pt (pw_or (pt_cmpR op_eq (pv 3) pe_int (nomark _)) (pw_or (pt_cmpR op_eq (pe_op op_modN (pv 4) pe_int) pe_int (nomark _)) (pw_or1 (pt_cmpR op_eq (pe_callB call_len_seq rfl B.len_ PySem.boot_len (pa_cons (pv 2) pa_nil)) pe_int (nomark _)))))) (pss_one (ps_ret (pc0 c_law_leaf hr (by omega) (pa_cons (pv 0) (pa_cons (pv 1) (pa_cons (pe_op op_fdivN (pv 4) pe_int) pa_nil)))))) pss_nil)
      (pss_cons (ps_if (pt_cmpR op_eq (pe_op op_modN (pv 4) pe_int) pe_int (nomark _)) (pss_cons (ps_setLc (i := 6) (own := [("_law_kind_here", 5)]) (g := gName 5) rfl sc_law_expression.nd rfl rfl (sw_true rfl rfl rfl (by decide +kernel)) (pi_list (pe_lst (pa_cons pe_str (pa_cons (pv 1) (pa_cons (pv 1) pa_nil))))) (blkOk_by (own := [("_law_kind_here", 5)]) (N := nm_law_expression) (sc := defScope (topS 48)) (by decide +kernel)) (fun _ _ _ _ _ => (pg_name (i := 5) sc_law_expression.nd rfl (Or.inl rfl))) (fun _ _ _ _ _ => pts_nil) (fun _ _ _ _ _ => (pc0 c_law_expression hr (by omega) (pa_cons (pv 0) (pa_cons (pv 5) (pa_cons (pv 2) (pa_cons (pe_op op_sub (pv 3) pe_int) pa_nil)))))))
      (pss_one (ps_ret (pe_tup (pa_cons pe_str (pa_cons (pe_ix ix_list (pv 6) pe_int (fun _ _ => rfl)) (pa_cons (pe_ix ix_list (pv 6) pe_int (fun _ _ => rfl)) (pa_cons (pe_ix ix_list (pv 6) pe_int (fun _ _ => rfl)) pa_nil)))))))) pss_nil)
      (pss_cons (ps_if (pt_cmpR op_eq (pv 1) pe_str (nomark _)) (pss_cons (ps_if (pt_cmpR op_gt (pe_op op_modN (pe_op op_fdivN (pv 4) pe_int) pe_int) pe_int (nomark _)) (pss_cons (ps_set (i := 7) sc_law_expression.nd rfl (Or.inl rfl) (pe_ix ix_list (pe_lst (pa_cons pe_str (pa_cons pe_str pa_nil))) (pe_op op_modN (pe_op op_fdivN (pv 4) pe_int) pe_int) (fun _ _ => rfl)))
      (pss_one (ps_ret (pe_tup (pa_cons (pv 7) (pa_cons (pc0 c_law_expression hr (by omega) (pa_cons (pv 0) (pa_cons pe_str (pa_cons (pv 2) (pa_cons (pe_op op_sub (pv 3) pe_int) pa_nil))))) (pa_cons (pe_op op_add pe_int (pe_op op_modN (pe_op op_fdivN (pv 4) pe_int) pe_int)) pa_nil))))))) pss_nil)
      (pss_cons (ps_set (i := 7) sc_law_expression.nd rfl (Or.inl rfl) (pe_ix ix_list (pe_lst (pa_cons pe_str (pa_cons pe_str (pa_cons pe_str (pa_cons pe_str (pa_cons pe_str (pa_cons pe_str pa_nil))))))) (pe_op op_modN (pe_op op_fdivN (pv 4) pe_int) pe_int) (fun _ _ => rfl)))
      (pss_cons (ps_set (i := 8) sc_law_expression.nd rfl (Or.inl rfl) (pc0 c_law_expression hr (by omega) (pa_cons (pv 0) (pa_cons pe_str (pa_cons (pv 2) (pa_cons (pe_op op_sub (pv 3) pe_int) pa_nil))))))
      (pss_one (ps_ret (pe_tup (pa_cons (pv 7) (pa_cons (pv 8) (pa_cons (pc0 c_law_expression hr (by omega) (pa_cons (pv 0) (pa_cons pe_str (pa_cons (pv 2) (pa_cons (pe_op op_sub (pv 3) pe_int) pa_nil))))) pa_nil))))))))) pss_nil)
      (pss_cons (ps_if (pt_cmpR op_eq (pv 1) pe_str (nomark _)) (pss_cons (ps_if (pt_cmpR op_eq (pe_op op_modN (pe_op op_fdivN (pv 4) pe_int) pe_int) pe_int (nomark _)) (pss_one (ps_ret (pe_tup (pa_cons pe_str (pa_cons (pc0 c_law_expression hr (by omega) (pa_cons (pv 0) (pa_cons pe_str (pa_cons (pv 2) (pa_cons (pe_op op_sub (pv 3) pe_int) pa_nil))))) pa_nil))))) pss_nil)
      (pss_cons (ps_set (i := 7) sc_law_expression.nd rfl (Or.inl rfl) (pe_ix ix_list (pe_lst (pa_cons pe_str (pa_cons pe_str (pa_cons pe_str (pa_cons pe_str pa_nil))))) (pe_op op_modN (pe_op op_fdivN (pv 4) pe_int) pe_int) (fun _ _ => rfl)))
      (pss_cons (ps_set (i := 5) sc_law_expression.nd rfl (Or.inl rfl) pe_str)
      (pss_cons (ps_if (pt_cmpR op_eq (pv 7) pe_str (nomark _)) (pss_one (ps_set (i := 5) sc_law_expression.nd rfl (Or.inl rfl) pe_str)) pss_nil)
      (pss_cons (ps_if (pt_cmpR op_eq (pv 7) pe_str (nomark _)) (pss_one (ps_set (i := 5) sc_law_expression.nd rfl (Or.inl rfl) (pe_ix ix_list (pe_lst (pa_cons pe_str (pa_cons pe_str (pa_cons pe_str (pa_cons pe_str pa_nil))))) (pe_op op_modN (pe_op op_fdivN (pv 4) pe_int) pe_int) (fun _ _ => rfl)))) pss_nil)
      (pss_cons (ps_set (i := 8) sc_law_expression.nd rfl (Or.inl rfl) (pc0 c_law_expression hr (by omega) (pa_cons (pv 0) (pa_cons (pv 5) (pa_cons (pv 2) (pa_cons (pe_op op_sub (pv 3) pe_int) pa_nil))))))
      (pss_one (ps_ret (pe_tup (pa_cons (pv 7) (pa_cons (pv 8) (pa_cons (pc0 c_law_expression hr (by omega) (pa_cons (pv 0) (pa_cons (pv 5) (pa_cons (pv 2) (pa_cons (pe_op op_sub (pv 3) pe_int) pa_nil))))) pa_nil)))))))))))) pss_nil)
      (pss_cons (ps_if (pt_cmpR op_eq (pv 1) pe_str (nomark _)) (pss_cons (ps_if (pt_cmpR op_eq (pe_op op_modN (pe_op op_fdivN (pv 4) pe_int) pe_int) pe_int (nomark _)) (pss_one (ps_ret (pe_tup (pa_cons pe_str (pa_cons (pc0 c_law_expression hr (by omega) (pa_cons (pv 0) (pa_cons pe_str (pa_cons (pv 2) (pa_cons (pe_op op_sub (pv 3) pe_int) pa_nil))))) (pa_cons (pe_op op_modN (pe_op op_fdivN (pv 4) pe_int) pe_int) pa_nil)))))) pss_nil)
      (pss_cons (ps_set (i := 8) sc_law_expression.nd rfl (Or.inl rfl) (pc0 c_law_expression hr (by omega) (pa_cons (pv 0) (pa_cons pe_str (pa_cons (pv 2) (pa_cons (pe_op op_sub (pv 3) pe_int) pa_nil))))))
      (pss_one (ps_ret (pe_tup (pa_cons pe_str (pa_cons (pv 8) (pa_cons (pc0 c_law_expression hr (by omega) (pa_cons (pv 0) (pa_cons pe_str (pa_cons (pv 2) (pa_cons (pe_op op_sub (pv 3) pe_int) pa_nil))))) pa_nil)))))))) pss_nil)
      (pss_one (ps_ret (pc0 c_law_leaf hr (by omega) (pa_cons (pv 0) (pa_cons (pv 1) (pa_cons (pe_op op_fdivN (pv 4) pe_int) pa_nil)))))))))))), ?_⟩
  walk_at "K"
  cases d0 with
  | zero =>
    walk_at "go2"
    refine ⟨a, rfl, hdr, fun H1 d g1 d1 => ?_⟩
    walk_at "go2"
    refine ⟨sv, hd, _, sch, rfl, hsch.gr g1, hh, fun H2 u g2 hu => ?_⟩
    exact q H2 u (g1.trans g2.any) (d1.gr g2 id) hu
  | succ d =>
  have hdn : d ≤ n := by omega
  walk_at "go2"
  refine ⟨a, rfl, hdr, fun H1 dr g1 d1 => ?_⟩
  have s1 := hsch.gr g1
  have hda : (((d + 1 : Nat) : Int)) - 1 = (d : Int) := by omega
  have nd : ∀ {hd : Str} {es : List V} {p : Addr} {H2 : Hp}, H2 p = some (.tup (.str hd :: es)) → hd ∈ NODES → 1 ≤ es.length → es.length ≤ 3 → (∀ e ∈ es, ExV (namesOf sch) H2 (d + 1) e) → ExV (namesOf sch) H2 (d + 1 + 1) (.ref p) := fun e a b c f => ⟨_, rfl, .inr (.inr ⟨_, _, e, a, b, c, f⟩)⟩
  have leaf : ∀ {H2 : Hp} {x : Int}, Gr (fun b => b = a) H H2 → SchV H2 sv sch → DrV H2 a → spLeaf [sv, .str hd, .int x] H2 Q E0 := fun {H2 x} g hs hd2 => ⟨sv, hd, x, sch, rfl, hs, hh, fun H3 u g3 hu => q H3 u (g.trans g3.any) (hd2.gr g3 id) (hu.upTo (by omega))⟩
  walk_at "go2"
  refine if_i (fun e => absurd e (by omega)) (fun _ => ?_)
  walk_at "go2"
  refine if_i (fun c1 => ?_) (fun c1 => ?_)
  · walk_at "go2"
    exact leaf g1 s1 d1
  walk_at "go2"
  obtain ⟨ns, hns, hnl⟩ := id d1
  refine ⟨a, _, rfl, .inl (SqL.of hns), ?_⟩
  walk_at "go2"
  refine if_i (fun c2 => ?_) (fun c2 => ?_)
  · walk_at "go2"
    exact leaf g1 s1 d1
  walk_at "go2"
  refine if_i (fun c3 => ?_) (fun c3 => ?_)
  · walk_at "go2"
    refine r_lc (i_lst ?_)
    walk_at "go2"
    rename_i L hL
    refine ⟨L, rfl, ⟨_, SqL.of upd_same⟩, fun D hD => ?_⟩
    have hLa : ¬ L = a := d1.ne hL
    have hL1 : H1 L = none := hL
    have hDL : L ≠ D := fun z => by rw [← z, upd_same] at hD; cases hD
    have hD1 : H1 D = none := free_of_upd hD
    have hDa : ¬ D = a := d1.ne hD1
    refine lc_list (K := K) (a := L) (xs := [.str "flag", .str hd, .str hd]) (fun i H' => Gr (fun b => b = a) H1 H' ∧ DrV H' a ∧ H' L = some (.lst [.str "flag", .str hd, .str hd]) ∧ ∃ es, H' D = some (.lst es) ∧ es.length = i ∧ ∀ e ∈ es, ExV (namesOf sch) H' (d + 1) e)
      ⟨(Gr.new hL).trans (Gr.new hD), d1.gr (x := no) ((Gr.new hL).trans (Gr.new hD)) id, look_old upd_same hD, [], upd_same, rfl, (fun e he => nomatch he)⟩ (fun i H' _ p => SqL.of p.2.2.1) ?_ ?_
    · rintro i x H' hx ⟨g, dr', hLl, es, hes, hel, hev⟩
      refine ⟨rfl, r_yes ?_⟩
      obtain ⟨h2, rfl, hh2⟩ : ∃ h2, x = V.str h2 ∧ HeadOk h2 := by
        have := List.mem_of_getElem? hx
        simp only [List.mem_cons, List.not_mem_nil, or_false] at this
        rcases this with rfl | rfl | rfl
        · exact ⟨_, rfl, .inr (.inl rfl)⟩
        · exact ⟨_, rfl, hh⟩
        · exact ⟨_, rfl, hh⟩
      have hi3 : i < 3 := by simpa using (List.getElem?_eq_some_iff.mp hx).1
      walk_at "go2"
      refine ⟨d, hdn, sv, h2, a, _, sch, rfl, hda, s1.gr g, hh2, dr', fun H3 u g3 d3 hu => ?_⟩
      have hD3 : H3 D = some (.lst es) := g3.lst hes hDa
      have gp : Gr (fun b => b = D) H3 (upd H3 D (.lst (es ++ [u]))) := Gr.put hD3 rfl
      refine ⟨es, hD3, sz10 (by omega), Gr.own (g.trans g3) hD1, d3.gr gp (fun z => hDa z.symm), by rw [upd_ne hDL]; exact g3.lst hLl hLa, es ++ [u], upd_same, by simp; omega, fun e he => ?_⟩
      rcases List.mem_append.mp he with z | z
      · exact ((hev e z).gr g3).gr gp
      · rw [List.mem_singleton] at z
        rw [z]; exact hu.gr gp
    · rintro H' ⟨g, dr', hLl, es, hes, hel, hev⟩
      obtain ⟨e0, e1, e2, rfl⟩ : ∃ e0 e1 e2, es = [e0, e1, e2] := by
        obtain ⟨x, y, hxy⟩ : ∃ x y, es = x :: y := by
          cases es with
          | nil => simp at hel
          | cons x y => exact ⟨x, y, rfl⟩
        rw [hxy] at hel ⊢
        obtain ⟨b, c, rfl⟩ := len2 (l := y) (by simpa using hel)
        exact ⟨_, _, _, rfl⟩
      walk_at "go2"
      refine r_ixL hes at0 ?_
      walk_at "go2"
      refine r_ixL hes at1 ?_
      walk_at "go2"
      refine r_ixL hes at2 ?_
      walk_at "go2"
      refine q _ _ ((g1.trans g).trans (Gr.new (by assumption))) (dr'.gr (x := no) (Gr.new (by assumption)) id) (nd upd_same (by decide +kernel) (by simp) (by simp) fun e he => (hev e he).gr (x := no) (Gr.new (by assumption)))
  walk_at "go2"
  rcases hh with rfl | rfl | rfl | rfl
  · walk_at "go2"
    refine if_dec (fun c4 => ?_) (fun c4 => ?_)
    · walk_at "go2"
      obtain ⟨v, hv, ev⟩ := at_mod (xs := [.str "div", .str "mod"]) (x := dr.fdiv 4) (n := 2) rfl (by decide)
      refine r_ixL upd_same ev ?_
      obtain ⟨sg, rfl, hsg⟩ : ∃ sg, v = V.str sg ∧ (sg = "div" ∨ sg = "mod" ∨ sg = "cut") := by
        simp only [List.mem_cons, List.not_mem_nil, or_false] at hv
        rcases hv with rfl | rfl
        · exact ⟨_, rfl, .inl rfl⟩
        · exact ⟨_, rfl, .inr (.inl rfl)⟩
      walk_at "go2"
      rename_i L hL
      refine ⟨d, hdn, sv, _, a, _, sch, rfl, hda, s1.gr (x := no) (Gr.new hL), .inl rfl, d1.gr (x := no) (Gr.new hL) id, fun H3 u g3 d3 hu => ?_⟩
      walk_at "go2"
      rename_i p hp
      exact q _ _ (((g1.trans (Gr.new hL)).trans g3).trans (Gr.new hp)) (d3.gr (x := no) (Gr.new hp) id) ⟨_, rfl, .inr (.inl ⟨sg, u, _, upd_same, hsg, hu.gr (x := no) (Gr.new hp)⟩)⟩
    · walk_at "go2"
      obtain ⟨v, hv, ev⟩ := at_mod (xs := [.str "add", .str "sub", .str "mul", .str "min", .str "max", .str "add"]) (x := dr.fdiv 4) (n := 6) rfl (by decide)
      refine r_ixL upd_same ev ?_
      obtain ⟨sg, rfl, hsg⟩ : ∃ sg, v = V.str sg ∧ sg ∈ NODES := by
        simp only [List.mem_cons, List.not_mem_nil, or_false] at hv
        rcases hv with rfl | rfl | rfl | rfl | rfl | rfl <;> exact ⟨_, rfl, by decide +kernel⟩
      walk_at "go2"
      rename_i L hL
      refine ⟨d, hdn, sv, _, a, _, sch, rfl, hda, s1.gr (x := no) (Gr.new hL), .inl rfl, d1.gr (x := no) (Gr.new hL) id, fun H3 u g3 d3 hu => ?_⟩
      walk_at "go2"
      refine ⟨d, hdn, sv, _, a, _, sch, rfl, hda, (s1.gr (x := no) (Gr.new hL)).gr g3, .inl rfl, d3, fun H4 u2 g4 d4 hu2 => ?_⟩
      walk_at "go2"
      rename_i p hp
      refine q _ _ ((((g1.trans (Gr.new hL)).trans g3).trans g4).trans (Gr.new hp)) (d4.gr (x := no) (Gr.new hp) id) (nd upd_same hsg (by simp) (by simp) fun e he => ?_)
      simp only [List.mem_cons, List.not_mem_nil, or_false] at he
      rcases he with rfl | rfl
      · exact (hu.gr g4).gr (x := no) (Gr.new hp)
      · exact hu2.gr (x := no) (Gr.new hp)
  · walk_at "go2"
    refine if_i (fun c4 => ?_) (fun c4 => ?_)
    · walk_at "go2"
      refine ⟨d, hdn, sv, _, a, _, sch, rfl, hda, s1, .inr (.inl rfl), d1, fun H3 u g3 d3 hu => ?_⟩
      walk_at "go2"
      rename_i p hp
      refine q _ _ ((g1.trans g3).trans (Gr.new hp)) (d3.gr (x := no) (Gr.new hp) id) (nd upd_same (by decide +kernel) (by simp) (by simp) fun e he => ?_)
      simp only [List.mem_cons, List.not_mem_nil, or_false] at he
      rw [he]; exact hu.gr (x := no) (Gr.new hp)
    · walk_at "go2"
      obtain ⟨v, hv, ev⟩ := at_mod (xs := [.str "less", .str "same", .str "and", .str "or"]) (x := dr.fdiv 4) (n := 4) rfl (by decide)
      refine r_ixL upd_same ev ?_
      obtain ⟨sg, rfl, hsg⟩ : ∃ sg, v = V.str sg ∧ sg ∈ NODES := by
        simp only [List.mem_cons, List.not_mem_nil, or_false] at hv
        rcases hv with rfl | rfl | rfl | rfl <;> exact ⟨_, rfl, by decide +kernel⟩
      walk_at "go2"
      rename_i L hL
      have gL : Gr no H1 (upd H1 L (.lst [.str "less", .str "same", .str "and", .str "or"])) := Gr.new hL
      have sL := s1.gr gL
      have dL := d1.gr gL id
      generalize upd H1 L (.lst [.str "less", .str "same", .str "and", .str "or"]) = HL at gL sL dL ⊢
      have GL : Gr (fun b => b = a) H HL := g1.trans gL.any
      refine if_s (fun c5 => ?_) (fun c5 => ?_)
      · walk_at "go2"
        refine if_s (fun c6 => ?_) (fun c6 => ?_)
        · rw [c5] at c6
          exact absurd c6 (by decide +kernel)
        · walk_at "go2"
          refine ⟨d, hdn, sv, _, a, _, sch, rfl, hda, sL, .inl rfl, dL, fun H3 u g3 d3 hu => ?_⟩
          walk_at "go2"
          refine ⟨d, hdn, sv, _, a, _, sch, rfl, hda, sL.gr g3, .inl rfl, d3, fun H4 u2 g4 d4 hu2 => ?_⟩
          walk_at "go2"
          rename_i p hp
          refine q _ _ (((GL.trans g3).trans g4).trans (Gr.new hp)) (d4.gr (x := no) (Gr.new hp) id) (nd upd_same hsg (by simp) (by simp) fun e he => ?_)
          simp only [List.mem_cons, List.not_mem_nil, or_false] at he
          rcases he with rfl | rfl
          · exact (hu.gr g4).gr (x := no) (Gr.new hp)
          · exact hu2.gr (x := no) (Gr.new hp)
      · walk_at "go2"
        refine if_s (fun c6 => ?_) (fun c6 => ?_)
        · walk_at "go2"
          obtain ⟨v, hv, ev⟩ := at_mod (xs := [.str "int", .str "flag", .str "word", .str "text"]) (x := dr.fdiv 64) (n := 4) rfl (by decide)
          refine r_ixL upd_same ev ?_
          obtain ⟨kh, rfl, hkh⟩ : ∃ kh, v = V.str kh ∧ HeadOk kh := by
            simp only [List.mem_cons, List.not_mem_nil, or_false] at hv
            rcases hv with rfl | rfl | rfl | rfl
            · exact ⟨_, rfl, .inl rfl⟩
            · exact ⟨_, rfl, .inr (.inl rfl)⟩
            · exact ⟨_, rfl, .inr (.inr (.inl rfl))⟩
            · exact ⟨_, rfl, .inr (.inr (.inr rfl))⟩
          walk_at "go2"
          rename_i L2' hL2
          refine ⟨d, hdn, sv, _, a, _, sch, rfl, hda, sL.gr (x := no) (Gr.new hL2), hkh, dL.gr (x := no) (Gr.new hL2) id, fun H3 u g3 d3 hu => ?_⟩
          walk_at "go2"
          refine ⟨d, hdn, sv, _, a, _, sch, rfl, hda, (sL.gr (x := no) (Gr.new hL2)).gr g3, hkh, d3, fun H4 u2 g4 d4 hu2 => ?_⟩
          walk_at "go2"
          rename_i p hp
          refine q _ _ ((((GL.trans (Gr.new hL2)).trans g3).trans g4).trans (Gr.new hp)) (d4.gr (x := no) (Gr.new hp) id) (nd upd_same hsg (by simp) (by simp) fun e he => ?_)
          simp only [List.mem_cons, List.not_mem_nil, or_false] at he
          rcases he with rfl | rfl
          · exact (hu.gr g4).gr (x := no) (Gr.new hp)
          · exact hu2.gr (x := no) (Gr.new hp)
        · walk_at "go2"
          refine ⟨d, hdn, sv, _, a, _, sch, rfl, hda, sL, .inr (.inl rfl), dL, fun H3 u g3 d3 hu => ?_⟩
          walk_at "go2"
          refine ⟨d, hdn, sv, _, a, _, sch, rfl, hda, sL.gr g3, .inr (.inl rfl), d3, fun H4 u2 g4 d4 hu2 => ?_⟩
          walk_at "go2"
          rename_i p hp
          refine q _ _ (((GL.trans g3).trans g4).trans (Gr.new hp)) (d4.gr (x := no) (Gr.new hp) id) (nd upd_same hsg (by simp) (by simp) fun e he => ?_)
          simp only [List.mem_cons, List.not_mem_nil, or_false] at he
          rcases he with rfl | rfl
          · exact (hu.gr g4).gr (x := no) (Gr.new hp)
          · exact hu2.gr (x := no) (Gr.new hp)
  · walk_at "go2"
    exact ⟨sv, _, _, sch, rfl, s1, .inr (.inr (.inl rfl)), fun H3 u g3 hu => q H3 u (g1.trans g3.any) (d1.gr g3 id) (hu.upTo (by omega))⟩
  · walk_at "go2"
    refine if_i (fun c4 => ?_) (fun c4 => ?_)
    · walk_at "go2"
      refine ⟨d, hdn, sv, _, a, _, sch, rfl, hda, s1, .inr (.inr (.inr rfl)), d1, fun H3 u g3 d3 hu => ?_⟩
      walk_at "go2"
      rename_i p hp
      exact q _ _ ((g1.trans g3).trans (Gr.new hp)) (d3.gr (x := no) (Gr.new hp) id) ⟨_, rfl, .inr (.inl ⟨_, u, _, upd_same, .inr (.inr rfl), hu.gr (x := no) (Gr.new hp)⟩)⟩
    · walk_at "go2"
      refine ⟨d, hdn, sv, _, a, _, sch, rfl, hda, s1, .inr (.inr (.inr rfl)), d1, fun H3 u g3 d3 hu => ?_⟩
      walk_at "go2"
      refine ⟨d, hdn, sv, _, a, _, sch, rfl, hda, s1.gr g3, .inr (.inr (.inr rfl)), d3, fun H4 u2 g4 d4 hu2 => ?_⟩
      walk_at "go2"
      rename_i p hp
      refine q _ _ (((g1.trans g3).trans g4).trans (Gr.new hp)) (d4.gr (x := no) (Gr.new hp) id) (nd upd_same (by decide +kernel) (by simp) (by simp) fun e he => ?_)
      simp only [List.mem_cons, List.not_mem_nil, or_false] at he
      rcases he with rfl | rfl
      · exact (hu.gr g4).gr (x := no) (Gr.new hp)
      · exact hu2.gr (x := no) (Gr.new hp)
end
end Snk
set_option Elab.async false
set_option linter.all false
set_option maxRecDepth 100000
set_option maxHeartbeats 4000000
namespace Snk
open PySem PySem.Spec PyProof.Rows L2 GxR GxT
local macro_rules | `(tactic| walk_at "K") => `(tactic| try simp only [ws_K, ws_P, ws_w, cx_K, cx_P, cx_w])
local macro_rules | `(tactic| walk_at "isi") => `(tactic| first
  | with_reducible refine r_isB (.base (.int _)) kk_int_int ?_ | with_reducible refine r_isB (.base (.int _)) kk_int_bool ?_ | with_reducible refine r_isB (.base (.int _)) kk_int_str ?_ | with_reducible refine r_isB (.base (.int _)) kk_int_tuple ?_ | with_reducible refine r_isB (.base (.bl _)) kk_bool_int ?_ | with_reducible refine r_isB (.base (.bl _)) kk_bool_bool ?_ | with_reducible refine r_isB (.base (.bl _)) kk_bool_str ?_ | with_reducible refine r_isB (.base (.bl _)) kk_bool_tuple ?_ | with_reducible refine r_isB (.base (.str _)) kk_str_int ?_ | with_reducible refine r_isB (.base (.str _)) kk_str_bool ?_ | with_reducible refine r_isB (.base (.str _)) kk_str_str ?_ | with_reducible refine r_isB (.base (.str _)) kk_str_tuple ?_ | with_reducible refine r_isB (.base .non) kk_NoneType_int ?_ | with_reducible refine r_isB (.base .non) kk_NoneType_bool ?_ | with_reducible refine r_isB (.base .non) kk_NoneType_str ?_ | with_reducible refine r_isB (.base .non) kk_NoneType_tuple ?_ | with_reducible refine r_isB (.base (.tup (by assumption))) kk_tuple_int ?_ | with_reducible refine r_isB (.base (.tup (by assumption))) kk_tuple_bool ?_ | with_reducible refine r_isB (.base (.tup (by assumption))) kk_tuple_str ?_ | with_reducible refine r_isB (.base (.tup (by assumption))) kk_tuple_tuple ?_)
local macro_rules | `(tactic| tb_rel) => `(tactic| first | assumption | exact upd_same | ((refine look_old ?hl ?hn); (case hn => assumption); (case hl => tb_rel)) | ((refine Gr.tup (by assumption) _ _ ?hl); (case hl => tb_rel)))
local macro_rules | `(tactic| tb_start) => `(tactic| first
  | ((with_reducible refine' r_var ?hvar ?_); (case hvar => exact rfl))
  | with_reducible refine r_c ?_ | with_reducible refine r_op ?_ | with_reducible refine r_un ?_ | with_reducible refine r_chain ?_ | with_reducible refine r_tup ?_ | with_reducible refine r_lst ?_ | with_reducible refine r_cons ?_ | with_reducible refine r_nil ?_ | with_reducible refine r_cb ?_ | with_reducible refine r_call ?_ | with_reducible refine r_bm ?_ | with_reducible refine r_bm0 ?_ | with_reducible refine r_sl ?_ | with_reducible refine r_test ?_ | with_reducible refine r_tb ?_ | with_reducible refine r_tand ?_ | with_reducible refine r_tor ?_ | with_reducible refine r_tnot ?_ | with_reducible refine r_andV ?_ | with_reducible refine r_orV ?_ | with_reducible refine r_notV ?_ | with_reducible refine r_ife ?_ | with_reducible refine s_seq ?_ | with_reducible refine s_nextM ?_ | with_reducible refine s_next ?_ | with_reducible refine s_ret ?_ | with_reducible refine s_if ?_ | with_reducible refine s_asg ?_ | with_reducible refine s_drop ?_ | with_reducible refine s_cont ?_ | with_reducible refine s_break ?_ | with_reducible refine g_name ?_ | with_reducible refine r_I0 ?_ | with_reducible refine r_U ?_ | with_reducible refine k_bl2 ?_ | with_reducible refine r_part ?_ | with_reducible refine r_nopart ?_ | with_reducible refine if_tt ?_ | with_reducible refine if_ff ?_ | with_reducible refine if_nf ?_ | with_reducible refine if_nt ?_
  | ((with_reducible refine' r_eq ?hsc ?_); (case hsc => exact rfl)) | ((with_reducible refine' r_ne ?hsc ?_); (case hsc => exact rfl)) | ((with_reducible refine isi_g ?_); walk_at "isi") | (first | ((with_reducible refine' r_ixT ?hix ?eix ?_); (case hix => tb_rel); (case eix => first | exact at0 | exact at1 | exact at2 | rfl))) | ((with_reducible refine' if_t ?hc ?_); (case hc => decide +kernel)) | ((with_reducible refine' if_f ?hc ?_); (case hc => decide +kernel)))
local macro_rules | `(tactic| walk_at "go") => `(tactic| repeat tb_start)
local macro_rules | `(tactic| walk_at "gr") => `(tactic| first | exact Gr.refl _ _ | assumption | ((refine Gr.trans ?ga (Gr.new ?gn)); (case gn => assumption); (case ga => walk_at "gr")) | ((refine' Gr.trans ?ga ?gb); (case gb => assumption); (case ga => walk_at "gr")))
local macro_rules | `(tactic| walk_at "go2") => `(tactic| repeat (first | tb_start | (((with_reducible refine' And.intro ?hz ?_); (case hz => (refine sz10 ?_; first | decide | (simp; done) | (simp; omega))); intro p hp)) | (first | ((with_reducible refine' r_inT ?hs ?hf ?ha ?_); (case hs => first | assumption | exact SqT.of (by tb_rel)); (case hf => rfl); (case ha => first | rfl | decide +kernel | exact flat_strs)) | ((with_reducible refine' r_niT ?hs ?hf ?ha ?_); (case hs => first | assumption | exact SqT.of (by tb_rel)); (case hf => rfl); (case ha => first | rfl | decide +kernel | exact flat_strs)))))
local macro_rules | `(tactic| tb_start) => `(tactic| with_reducible refine k_int ?_)
local macro_rules | `(tactic| tb_start) => `(tactic| ((with_reducible refine' And.intro (ty_lst ?ht) ?_); (case ht => tb_rel)))
local macro_rules | `(tactic| tb_start) => `(tactic| ((with_reducible refine' s_aug ?h1 ?_); (case h1 => exact rfl)))
local macro_rules | `(tactic| tb_start) => `(tactic| with_reducible refine r_ip ?_)
local macro_rules | `(tactic| tb_start) => `(tactic| with_reducible refine r_gsub ?_)
local macro_rules | `(tactic| tb_rel) => `(tactic| first | assumption | exact upd_same | ((with_reducible refine look_old ?hl ?hn); (case hn => assumption); (case hl => tb_rel)) | ((with_reducible refine' look_n ?h1 ?nn); (case nn => first | assumption | exact Ne.symm (by assumption)); (case h1 => tb_rel)) | ((with_reducible refine' look_t ?h1 ?h2); (case h2 => tb_rel); (case h1 => tb_rel)) | ((with_reducible refine' look_td ?h1 ?h2); (case h2 => tb_rel); (case h1 => tb_rel)) | ((with_reducible refine' look_ld ?h1 ?h2); (case h2 => tb_rel); (case h1 => tb_rel)) | ((refine Gr.tup (by assumption) _ _ ?hl); (case hl => tb_rel)))
local macro_rules | `(tactic| tb_start) => `(tactic| ((with_reducible refine' r_I ?hc ?_); (case hc => first | exact (show (_ : Int) ≠ 0 by decide) | exact ⟨by decide, by decide⟩ | exact Or.inr ⟨by decide, by decide⟩ | exact ⟨by decide, by decide, by decide⟩)))
local macro_rules | `(tactic| tb_start) => `(tactic| with_reducible refine (Or.inl ⟨_, rfl, ?_⟩ : (∃ j, [V.int _] = [V.int j] ∧ _) ∨ _))
section
variable {P : Program} {w : World} {K : PySem.W.Frag} {mg : Str → Option Value} {base : Heap} {CX : CXT}
/-! ### statements, by shape -/
def StmV (nms : List Str) (H : Hp) : Nat → V → Prop
  | 0, v => ∃ a, v = .ref a ∧ (H a = some (.tup [.str "skip"]) ∨ ∃ s e, H a = some (.tup [.str "set", .str s, e]) ∧ s ∈ nms ∧ ExV nms H 7 e)
  | n + 1, v => ∃ a, v = .ref a ∧ (H a = some (.tup [.str "skip"]) ∨ (∃ s e, H a = some (.tup [.str "set", .str s, e]) ∧ s ∈ nms ∧ ExV nms H 7 e) ∨
      ∃ c b1 b2 xs ys, H a = some (.tup [.str "if", c, .ref b1, .ref b2]) ∧ ExV nms H 7 c ∧ H b1 = some (.tup xs) ∧ H b2 = some (.tup ys) ∧ xs.length ≤ 3 ∧ ys.length ≤ 3 ∧ (∀ x ∈ xs, StmV nms H n x) ∧ ∀ y ∈ ys, StmV nms H n y)
theorem StmV.gr {nms : List Str} {x : Addr → Prop} {H H' : Hp} (g : Gr x H H') : ∀ {n : Nat} {v : V}, StmV nms H n v → StmV nms H' n v
  | 0, v, ⟨a, e, h⟩ => ⟨a, e, by
    rcases h with h | ⟨s, y, h1, h2, h3⟩
    · exact .inl (g.tup _ _ h)
    · exact .inr ⟨s, y, g.tup _ _ h1, h2, h3.gr g⟩⟩
  | n + 1, v, ⟨a, e, h⟩ => ⟨a, e, by
    rcases h with h | ⟨s, y, h1, h2, h3⟩ | ⟨c, b1, b2, xs, ys, h1, h2, h3, h4, h5, h6, h7, h8⟩
    · exact .inl (g.tup _ _ h)
    · exact .inr (.inl ⟨s, y, g.tup _ _ h1, h2, h3.gr g⟩)
    · exact .inr (.inr ⟨c, b1, b2, xs, ys, g.tup _ _ h1, h2.gr g, g.tup _ _ h3, g.tup _ _ h4, h5, h6, fun x hx => StmV.gr g (h7 x hx), fun x hx => StmV.gr g (h8 x hx)⟩)⟩
/-- a block: a tuple of statements -/
def BlkV (nms : List Str) (H : Hp) (n : Nat) (v : V) : Prop := ∃ a xs, v = .ref a ∧ H a = some (.tup xs) ∧ xs.length ≤ 3 ∧ ∀ x ∈ xs, StmV nms H n x
theorem BlkV.gr {nms : List Str} {x : Addr → Prop} {H H' : Hp} {n : Nat} {v : V} (g : Gr x H H') (h : BlkV nms H n v) : BlkV nms H' n v := by
  obtain ⟨a, xs, e, h1, h2, h3⟩ := h
  exact ⟨a, xs, e, g.tup _ _ h1, h2, fun y hy => (h3 y hy).gr g⟩
theorem StmV.of0 {nms : List Str} {H : Hp} {n : Nat} {v : V} (h : StmV nms H 0 v) : StmV nms H n v := by
  cases n with
  | zero => exact h
  | succ n =>
    obtain ⟨a, e, h⟩ := h
    exact ⟨a, e, h.elim .inl fun h => .inr (.inl h)⟩
/-! ### _law_set -/
abbrev nm_law_set : List Str := ["_law_schema_here", "_law_draws_here", "_law_depth", "_law_field", "_law_kind_here", "_law_value_here"]
theorem sc_law_set : FnScope nm_law_set ["_law_schema_here", "_law_draws_here", "_law_depth"] (defScope (topS 49)) := ⟨rfl, rfl, rfl, by decide +kernel, rfl, by decide +kernel, by decide +kernel⟩
-- slots: 0:_law_schema_here 1:_law_draws_here 2:_law_depth 3:_law_field 4:_law_kind_here 5:_law_value_here
def spSet : Sp := fun vs H Q _ => ∃ (sv : V) (a : Addr) (sch : Sch), vs = [sv, .ref a, .int 2] ∧ SchV H sv sch ∧ DrV H a ∧ ∀ H' u, Gr (fun b => b = a) H H' → DrV H' a → StmV (namesOf sch) H' 0 u → Q u H'
theorem c_exprN (D : dExpr K mg) (B : Blt mg) (c_law_next : Cal P w K mg base CX0 1 "_law_next" ["_law_draws_here"] spNext) (c_law_leaf : Cal P w K mg base CX0 1 "_law_leaf" ["_law_schema_here", "_law_head", "_law_draw"] spLeaf) : ∀ n : Nat, cExpr P w K mg base (n + 2) (spExprB n)
  | 0 => c_expr0 D B c_law_next c_law_leaf
  | n + 1 => c_exprS n D B c_law_next c_law_leaf (c_exprN D B c_law_next c_law_leaf n)
set_option maxHeartbeats 16000000 in
theorem c_law_set (D : DefAt K mg "_law_set" 49 ["_law_schema_here", "_law_draws_here", "_law_depth"]) (B : Blt mg) (c_law_next : Cal P w K mg base CX0 1 "_law_next" ["_law_draws_here"] spNext) (c_law_expression : cExpr P w K mg base 4 (spExprB 2)) : Cal P w K mg base CX0 5 "_law_set" ["_law_schema_here", "_law_draws_here", "_law_depth"] spSet := by
  refine mk0 D sc_law_set (fun vs H Q E h => by obtain ⟨_, _, _, rfl, _⟩ := h; rfl) ?_
  rintro X Q vs H E ⟨f, cdv, A, outer, s, H0, rfl⟩ hr ⟨sv, a, sch, rfl, hsch, hdr, q⟩
  refine ⟨_, (pss_cons (ps_set (i := 3) sc_law_set.nd rfl (Or.inl rfl) (pe_ix ix_tup (pv 0) (pe_op op_modN (pc0 c_law_next hr (by omega) (pa_cons (pv 1) pa_nil)) (pe_callB call_len_seq rfl B.len_ PySem.boot_len (pa_cons (pv 0) pa_nil))) (fun _ _ => rfl)))
      (pss_cons (ps_set (i := 4) sc_law_set.nd rfl (Or.inl rfl) (pe_ix ix_tup (pv 3) pe_int (fun _ _ => rfl)))
      (pss_cons (ps_set (i := 5) sc_law_set.nd rfl (Or.inl rfl) (pc0 c_law_expression hr (by omega) (pa_cons (pv 0) (pa_cons (pe_ix ix_tup (pv 4) pe_int (fun _ _ => rfl)) (pa_cons (pv 1) (pa_cons (pv 2) pa_nil))))))
      (pss_cons (ps_if (pt_cmpR op_eq (pe_ix ix_tup (pv 4) pe_int (fun _ _ => rfl)) pe_str (nomark _)) (pss_one (ps_set (i := 5) sc_law_set.nd rfl (Or.inl rfl) (pe_tup (pa_cons pe_str (pa_cons (pe_tup (pa_cons pe_str (pa_cons (pv 5) (pa_cons (pe_tup (pa_cons pe_str (pa_cons (pe_ix ix_tup (pv 4) pe_int (fun _ _ => rfl)) pa_nil))) pa_nil)))) (pa_cons (pe_tup (pa_cons pe_str (pa_cons (pe_ix ix_tup (pv 4) pe_int (fun _ _ => rfl)) pa_nil))) pa_nil)))))) pss_nil)
      (pss_cons (ps_if (pt_cmpR op_eq (pe_ix ix_tup (pv 4) pe_int (fun _ _ => rfl)) pe_str (nomark _)) (pss_one (ps_set (i := 5) sc_law_set.nd rfl (Or.inl rfl) (pe_tup (pa_cons pe_str (pa_cons (pv 5) (pa_cons (pe_ix ix_tup (pv 4) pe_int (fun _ _ => rfl)) pa_nil)))))) pss_nil)
      (pss_cons (ps_if (pt_cmpR op_eq (pe_ix ix_tup (pv 4) pe_int (fun _ _ => rfl)) pe_str (nomark _)) (pss_cons (ps_set (i := 5) sc_law_set.nd rfl (Or.inl rfl) (pe_tup (pa_cons pe_str (pa_cons (pe_ix ix_tup (pe_ix ix_tup (pv 4) pe_int (fun _ _ => rfl)) (pe_op op_modN (pc0 c_law_next hr (by omega) (pa_cons (pv 1) pa_nil)) (pe_callB call_len_seq rfl B.len_ PySem.boot_len (pa_cons (pe_ix ix_tup (pv 4) pe_int (fun _ _ => rfl)) pa_nil))) (fun _ _ => rfl)) pa_nil))))
      (pss_one (ps_if (pt_cmpR op_eq (pe_op op_modN (pc0 c_law_next hr (by omega) (pa_cons (pv 1) pa_nil)) pe_int) pe_int (nomark _)) (pss_one (ps_set (i := 5) sc_law_set.nd rfl (Or.inl rfl) (pe_tup (pa_cons pe_str (pa_cons (pc0 c_law_expression hr (by omega) (pa_cons (pv 0) (pa_cons pe_str (pa_cons (pv 1) (pa_cons (pe_op op_sub (pv 2) pe_int) pa_nil))))) (pa_cons (pv 5) (pa_cons (pe_tup (pa_cons pe_str (pa_cons (pe_ix ix_tup (pv 3) pe_int (fun _ _ => rfl)) pa_nil))) pa_nil))))))) pss_nil))) pss_nil)
      (pss_one (ps_ret (pe_tup (pa_cons pe_str (pa_cons (pe_ix ix_tup (pv 3) pe_int (fun _ _ => rfl)) (pa_cons (pv 5) pa_nil)))))))))))), ?_⟩
  walk_at "K"
  obtain ⟨sa, fxs, rfl, hsa, hfl, hkd, hs1, hs8⟩ := id hsch
  have lf := hfl.length
  walk_at "go2"
  refine ⟨a, rfl, hdr, fun H1 i g1 d1 => ?_⟩
  have hsa1 := g1.tup _ _ hsa
  walk_at "go2"
  refine ⟨sa, fxs, rfl, .inr (SqT.of hsa1), ?_⟩
  walk_at "go2"
  refine r_I (by omega) ?_
  obtain ⟨m1, m2⟩ := fmod_lo (a := i) (n := (fxs.length : Int)) (by omega)
  have hkl : (i.fmod (fxs.length : Int)).toNat < fxs.length := by omega
  have hfx : fxs[(i.fmod (fxs.length : Int)).toNat]? = some fxs[(i.fmod (fxs.length : Int)).toNat] := List.getElem?_eq_getElem hkl
  obtain ⟨fld, hfld, fa, kv, efa, hfa, hkv⟩ := Paired.getL hfl hfx
  rw [efa] at hfx
  refine r_ixT hsa1 (at_k m1 hfx) ?_
  have hfa1 := g1.tup _ _ hfa
  have hkv1 := hkv.gr g1
  have kb := hkd _ (List.mem_of_getElem? hfld)
  have hnm : fld.1 ∈ namesOf sch := List.mem_map.mpr ⟨fld, List.mem_of_getElem? hfld, rfl⟩
  obtain ⟨nm, b⟩ := fld
  have lf7 : ∀ {n : Nat} {H2 : Hp} {p : Addr} {h : Str} {x : V}, H2 p = some (.tup [.str h, x]) → LeafK (namesOf sch) h x → ExV (namesOf sch) H2 (n + 1) (.ref p) := fun e k => ⟨_, rfl, .inl ⟨_, _, e, k⟩⟩
  have fin : ∀ {H2 : Hp} {e : V}, Gr (fun b => b = a) H H2 → DrV H2 a → ExV (namesOf sch) H2 7 e → ∀ p, H2 p = none → Q (.ref p) (upd H2 p (.tup [.str "set", .str nm, e])) := fun g d he p hp =>
    q _ _ (g.trans (Gr.new hp)) (d.gr (x := no) (Gr.new hp) id) ⟨p, rfl, .inr ⟨nm, _, upd_same, hnm, he.gr (x := no) (Gr.new hp)⟩⟩
  cases b with
  | int lo hi =>
    obtain ⟨ka, rfl, hka⟩ := hkv1
    walk_at "go2"
    refine ⟨2, by omega, .ref sa, _, a, _, sch, rfl, rfl, hsch.gr g1, .inl rfl, d1, fun H2 u g2 d2 hu => ?_⟩
    have hka2 := g2.tup _ _ hka
    have hfa2 := g2.tup _ _ hfa1
    walk_at "go2"
    rename_i p1 hp1 p2 hp2 p3 hp3 p4 hp4 p5 hp5
    refine fin (g1.trans (g2.trans ((((Gr.new hp1).trans (Gr.new hp2)).trans (Gr.new hp3)).trans (Gr.new hp4)))) (d2.gr (x := no) ((((Gr.new hp1).trans (Gr.new hp2)).trans (Gr.new hp3)).trans (Gr.new hp4)) id) ?_ p5 hp5
    refine ⟨p4, rfl, .inr (.inr ⟨"min", _, upd_same, by decide +kernel, by simp, by simp, fun e he => ?_⟩)⟩
    simp only [List.mem_cons, List.not_mem_nil, or_false] at he
    rcases he with rfl | rfl
    · refine ⟨p2, rfl, .inr (.inr ⟨"max", _, by tb_rel, by decide +kernel, by simp, by simp, fun e he => ?_⟩)⟩
      simp only [List.mem_cons, List.not_mem_nil, or_false] at he
      rcases he with rfl | rfl
      · exact (hu.gr (x := no) ((((Gr.new hp1).trans (Gr.new hp2)).trans (Gr.new hp3)).trans (Gr.new hp4))).upTo (by decide)
      · exact lf7 (x := .int lo) (by tb_rel) (.inr (.inl ⟨.inl rfl, trivial⟩))
    · exact lf7 (x := .int hi) (by tb_rel) (.inr (.inl ⟨.inl rfl, trivial⟩))
  | flag =>
    obtain ⟨ka, rfl, hka⟩ := hkv1
    walk_at "go2"
    refine ⟨2, by omega, .ref sa, _, a, _, sch, rfl, rfl, hsch.gr g1, .inr (.inl rfl), d1, fun H2 u g2 d2 hu => ?_⟩
    have hka2 := g2.tup _ _ hka
    have hfa2 := g2.tup _ _ hfa1
    walk_at "go2"
    rename_i p5 hp5
    exact fin (g1.trans g2) d2 (hu.upTo (by omega)) p5 hp5
  | text n =>
    obtain ⟨ka, rfl, hka⟩ := hkv1
    walk_at "go2"
    refine ⟨2, by omega, .ref sa, _, a, _, sch, rfl, rfl, hsch.gr g1, .inr (.inr (.inr rfl)), d1, fun H2 u g2 d2 hu => ?_⟩
    have hka2 := g2.tup _ _ hka
    have hfa2 := g2.tup _ _ hfa1
    walk_at "go2"
    rename_i p4 hp4 p5 hp5
    exact fin (g1.trans (g2.trans (Gr.new hp4))) (d2.gr (x := no) (Gr.new hp4) id) ⟨p4, rfl, .inr (.inl ⟨"cut", u, n, upd_same, .inr (.inr rfl), (hu.gr (x := no) (Gr.new hp4)).upTo (by decide)⟩)⟩ p5 hp5
  | word ws =>
    obtain ⟨ka, kc, rfl, hka, hkc⟩ := hkv1
    obtain ⟨w1, w2⟩ := (show WOk ws ∧ ws ≠ [] from kb)
    have hwl : 0 < ws.length := List.length_pos_iff.mpr w2
    walk_at "go2"
    refine ⟨2, by omega, .ref sa, _, a, _, sch, rfl, rfl, hsch.gr g1, .inr (.inr (.inl rfl)), d1, fun H2 u g2 d2 hu => ?_⟩
    have hka2 := g2.tup _ _ hka
    have hkc2 := g2.tup _ _ hkc
    have hfa2 := g2.tup _ _ hfa1
    walk_at "go2"
    refine ⟨a, rfl, d2, fun H3 j g3 d3 => ?_⟩
    have hka3 := g3.tup _ _ hka2
    have hkc3 := g3.tup _ _ hkc2
    walk_at "go2"
    refine ⟨kc, _, rfl, .inr (SqT.of hkc3), ?_⟩
    rw [List.length_map]
    walk_at "go2"
    refine r_I (by omega) ?_
    obtain ⟨v, hv, ev⟩ := at_mod (xs := ws.map V.str) (x := j) (n := (ws.length : Int)) (by rw [List.length_map]) (by omega)
    refine r_ixT hkc3 ev ?_
    obtain ⟨sw, hsw, rfl⟩ := List.mem_map.mp hv
    walk_at "go2"
    rename_i p1 hp1
    refine ⟨a, rfl, d3.gr (x := no) (Gr.new hp1) id, fun H4 k g4 d4 => ?_⟩
    have hp14 := g4.tup _ _ (upd_same (H := H3) (a := p1) (o := .tup [.str "word", .str sw]))
    have hfa4 := g4.tup _ _ (look_old (g3.tup _ _ hfa2) hp1)
    have G4 : Gr (fun b => b = a) H H4 := (((g1.trans g2).trans g3).trans (Gr.new hp1)).trans g4
    have lw : ∀ {n : Nat} {H5 : Hp}, Gr no H4 H5 → ExV (namesOf sch) H5 (n + 1) (.ref p1) := fun g => lf7 (g.tup _ _ hp14) (.inr (.inr ⟨rfl, sw, rfl, w1.2 _ hsw⟩))
    walk_at "go2"
    refine if_i (fun c1 => ?_) (fun c1 => ?_)
    · walk_at "go2"
      refine ⟨1, by omega, .ref sa, _, a, _, sch, rfl, rfl, hsch.gr G4, .inr (.inl rfl), d4, fun H5 u5 g5 d5 hu5 => ?_⟩
      have hfa5 := g5.tup _ _ hfa4
      have hp15 := g5.tup _ _ hp14
      walk_at "go2"
      rename_i p2 hp2 p3 hp3 p5 hp5
      refine fin (G4.trans (g5.trans ((Gr.new hp2).trans (Gr.new hp3)))) (d5.gr (x := no) ((Gr.new hp2).trans (Gr.new hp3)) id) ?_ p5 hp5
      refine ⟨p3, rfl, .inr (.inr ⟨"pick", _, upd_same, by decide +kernel, by simp, by simp, fun e he => ?_⟩)⟩
      simp only [List.mem_cons, List.not_mem_nil, or_false] at he
      rcases he with rfl | rfl | rfl
      · exact (hu5.gr (x := no) ((Gr.new hp2).trans (Gr.new hp3))).upTo (by decide)
      · exact lf7 (by tb_rel) (.inr (.inr ⟨rfl, sw, rfl, w1.2 _ hsw⟩))
      · exact lf7 (by tb_rel) (.inl ⟨rfl, nm, rfl, hnm⟩)
    · walk_at "go2"
      rename_i p5 hp5
      exact fin G4 d4 (lw (Gr.refl _ _)) p5 hp5
end
end Snk
set_option Elab.async false
set_option linter.all false
set_option maxRecDepth 100000
set_option maxHeartbeats 4000000
namespace Snk
open PySem PySem.Spec PyProof.Rows L2 GxR GxT
local macro_rules | `(tactic| walk_at "K") => `(tactic| try simp only [ws_K, ws_P, ws_w, cx_K, cx_P, cx_w])
local macro_rules | `(tactic| walk_at "isi") => `(tactic| first
  | with_reducible refine r_isB (.base (.int _)) kk_int_int ?_ | with_reducible refine r_isB (.base (.int _)) kk_int_bool ?_ | with_reducible refine r_isB (.base (.int _)) kk_int_str ?_ | with_reducible refine r_isB (.base (.int _)) kk_int_tuple ?_ | with_reducible refine r_isB (.base (.bl _)) kk_bool_int ?_ | with_reducible refine r_isB (.base (.bl _)) kk_bool_bool ?_ | with_reducible refine r_isB (.base (.bl _)) kk_bool_str ?_ | with_reducible refine r_isB (.base (.bl _)) kk_bool_tuple ?_ | with_reducible refine r_isB (.base (.str _)) kk_str_int ?_ | with_reducible refine r_isB (.base (.str _)) kk_str_bool ?_ | with_reducible refine r_isB (.base (.str _)) kk_str_str ?_ | with_reducible refine r_isB (.base (.str _)) kk_str_tuple ?_ | with_reducible refine r_isB (.base .non) kk_NoneType_int ?_ | with_reducible refine r_isB (.base .non) kk_NoneType_bool ?_ | with_reducible refine r_isB (.base .non) kk_NoneType_str ?_ | with_reducible refine r_isB (.base .non) kk_NoneType_tuple ?_ | with_reducible refine r_isB (.base (.tup (by assumption))) kk_tuple_int ?_ | with_reducible refine r_isB (.base (.tup (by assumption))) kk_tuple_bool ?_ | with_reducible refine r_isB (.base (.tup (by assumption))) kk_tuple_str ?_ | with_reducible refine r_isB (.base (.tup (by assumption))) kk_tuple_tuple ?_)
local macro_rules | `(tactic| tb_rel) => `(tactic| first | assumption | exact upd_same | ((refine look_old ?hl ?hn); (case hn => assumption); (case hl => tb_rel)) | ((refine Gr.tup (by assumption) _ _ ?hl); (case hl => tb_rel)))
local macro_rules | `(tactic| tb_start) => `(tactic| first
  | ((with_reducible refine' r_var ?hvar ?_); (case hvar => exact rfl))
  | with_reducible refine r_c ?_ | with_reducible refine r_op ?_ | with_reducible refine r_un ?_ | with_reducible refine r_chain ?_ | with_reducible refine r_tup ?_ | with_reducible refine r_lst ?_ | with_reducible refine r_cons ?_ | with_reducible refine r_nil ?_ | with_reducible refine r_cb ?_ | with_reducible refine r_call ?_ | with_reducible refine r_bm ?_ | with_reducible refine r_bm0 ?_ | with_reducible refine r_sl ?_ | with_reducible refine r_test ?_ | with_reducible refine r_tb ?_ | with_reducible refine r_tand ?_ | with_reducible refine r_tor ?_ | with_reducible refine r_tnot ?_ | with_reducible refine r_andV ?_ | with_reducible refine r_orV ?_ | with_reducible refine r_notV ?_ | with_reducible refine r_ife ?_ | with_reducible refine s_seq ?_ | with_reducible refine s_nextM ?_ | with_reducible refine s_next ?_ | with_reducible refine s_ret ?_ | with_reducible refine s_if ?_ | with_reducible refine s_asg ?_ | with_reducible refine s_drop ?_ | with_reducible refine s_cont ?_ | with_reducible refine s_break ?_ | with_reducible refine g_name ?_ | with_reducible refine r_I0 ?_ | with_reducible refine r_U ?_ | with_reducible refine k_bl2 ?_ | with_reducible refine r_part ?_ | with_reducible refine r_nopart ?_ | with_reducible refine if_tt ?_ | with_reducible refine if_ff ?_ | with_reducible refine if_nf ?_ | with_reducible refine if_nt ?_
  | ((with_reducible refine' r_eq ?hsc ?_); (case hsc => exact rfl)) | ((with_reducible refine' r_ne ?hsc ?_); (case hsc => exact rfl)) | ((with_reducible refine isi_g ?_); walk_at "isi") | (first | ((with_reducible refine' r_ixT ?hix ?eix ?_); (case hix => tb_rel); (case eix => first | exact at0 | exact at1 | exact at2 | rfl))) | ((with_reducible refine' if_t ?hc ?_); (case hc => decide +kernel)) | ((with_reducible refine' if_f ?hc ?_); (case hc => decide +kernel)))
local macro_rules | `(tactic| walk_at "go") => `(tactic| repeat tb_start)
local macro_rules | `(tactic| walk_at "gr") => `(tactic| first | exact Gr.refl _ _ | assumption | ((refine Gr.trans ?ga (Gr.new ?gn)); (case gn => assumption); (case ga => walk_at "gr")) | ((refine' Gr.trans ?ga ?gb); (case gb => assumption); (case ga => walk_at "gr")))
local macro_rules | `(tactic| walk_at "go2") => `(tactic| repeat (first | tb_start | (((with_reducible refine' And.intro ?hz ?_); (case hz => (refine sz10 ?_; first | decide | (simp; done) | (simp; omega))); intro p hp)) | (first | ((with_reducible refine' r_inT ?hs ?hf ?ha ?_); (case hs => first | assumption | exact SqT.of (by tb_rel)); (case hf => rfl); (case ha => first | rfl | decide +kernel | exact flat_strs)) | ((with_reducible refine' r_niT ?hs ?hf ?ha ?_); (case hs => first | assumption | exact SqT.of (by tb_rel)); (case hf => rfl); (case ha => first | rfl | decide +kernel | exact flat_strs)))))
local macro_rules | `(tactic| tb_start) => `(tactic| with_reducible refine k_int ?_)
local macro_rules | `(tactic| tb_start) => `(tactic| ((with_reducible refine' And.intro (ty_lst ?ht) ?_); (case ht => tb_rel)))
local macro_rules | `(tactic| tb_start) => `(tactic| ((with_reducible refine' s_aug ?h1 ?_); (case h1 => exact rfl)))
local macro_rules | `(tactic| tb_start) => `(tactic| with_reducible refine r_ip ?_)
local macro_rules | `(tactic| tb_start) => `(tactic| with_reducible refine r_gsub ?_)
local macro_rules | `(tactic| tb_rel) => `(tactic| first | assumption | exact upd_same | ((with_reducible refine look_old ?hl ?hn); (case hn => assumption); (case hl => tb_rel)) | ((with_reducible refine' look_n ?h1 ?nn); (case nn => first | assumption | exact Ne.symm (by assumption)); (case h1 => tb_rel)) | ((with_reducible refine' look_t ?h1 ?h2); (case h2 => tb_rel); (case h1 => tb_rel)) | ((with_reducible refine' look_td ?h1 ?h2); (case h2 => tb_rel); (case h1 => tb_rel)) | ((with_reducible refine' look_ld ?h1 ?h2); (case h2 => tb_rel); (case h1 => tb_rel)) | ((refine Gr.tup (by assumption) _ _ ?hl); (case hl => tb_rel)))
local macro_rules | `(tactic| tb_start) => `(tactic| ((with_reducible refine' r_I ?hc ?_); (case hc => first | exact (show (_ : Int) ≠ 0 by decide) | exact ⟨by decide, by decide⟩ | exact Or.inr ⟨by decide, by decide⟩ | exact ⟨by decide, by decide, by decide⟩)))
local macro_rules | `(tactic| tb_start) => `(tactic| with_reducible refine (Or.inl ⟨_, rfl, ?_⟩ : (∃ j, [V.int _] = [V.int j] ∧ _) ∨ _))
section
variable {P : Program} {w : World} {K : PySem.W.Frag} {mg : Str → Option Value} {base : Heap} {CX : CXT}
/-! ### _law_made -/
abbrev nm_law_made : List Str := ["_law_schema_here", "_law_draws_here", "_law_depth", "_law_statements", "_law_k", "_law_draw", "_law_condition", "_law_first"]
theorem sc_law_made : FnScope nm_law_made ["_law_schema_here", "_law_draws_here", "_law_depth"] (defScope (topS 50)) := ⟨rfl, rfl, rfl, by decide +kernel, rfl, by decide +kernel, by decide +kernel⟩
-- slots: 0:_law_schema_here 1:_law_draws_here 2:_law_depth 3:_law_statements 4:_law_k 5:_law_draw 6:_law_condition 7:_law_first
def spMade (d : Nat) : Sp := fun vs H Q _ => ∃ (sv : V) (a : Addr) (dep : Int) (sch : Sch), vs = [sv, .ref a, .int dep] ∧ dep = (d : Int) ∧ SchV H sv sch ∧ DrV H a ∧ ∀ H' u, Gr (fun b => b = a) H H' → DrV H' a → BlkV (namesOf sch) H' d u → Q u H'
abbrev cMade (P : Program) (w : World) (K : PySem.W.Frag) (mg : Str → Option Value) (base : Heap) (k : Nat) (sp : Sp) : Prop := Cal P w K mg base CX0 k "_law_made" ["_law_schema_here", "_law_draws_here", "_law_depth"] sp
set_option maxHeartbeats 16000000 in
theorem c_made0 (D : DefAt K mg "_law_made" 50 ["_law_schema_here", "_law_draws_here", "_law_depth"]) (B : Blt mg) (c_law_next : Cal P w K mg base CX0 1 "_law_next" ["_law_draws_here"] spNext) (c_law_expression : cExpr P w K mg base 4 (spExprB 2))
    (c_law_set : Cal P w K mg base CX0 5 "_law_set" ["_law_schema_here", "_law_draws_here", "_law_depth"] spSet) : cMade P w K mg base 6 (spMade 0) := by
  have c_law_made : cMade P w K mg base 0 (fun _ _ _ _ => False) := cal_no D
  refine mk0 D sc_law_made (fun vs H Q E h => by obtain ⟨_, _, _, _, rfl, _⟩ := h; rfl) ?_
  rintro X Q vs H E ⟨f, cdv, A, outer, s, H0, rfl⟩ hr ⟨sv, a, dep, sch, rfl, rfl, hsch, hdr, q⟩
  refine ⟨_, (pss_cons (ps_set (i := 3) sc_law_made.nd rfl (Or.inl rfl) (pe_lst pa_nil))
      (pss_cons (ps_for PassesOwn.never rfl (pi_range1 rfl B.range_ (pa_cons (pe_op op_add pe_int (pe_op op_modN (pc0 c_law_next hr (by omega) (pa_cons (pv 1) pa_nil)) pe_int)) pa_nil)) (pg_name (i := 4) sc_law_made.nd rfl (Or.inl rfl)) (pss_cons (ps_set (i := 5) sc_law_made.nd rfl (Or.inl rfl) (pc0 c_law_next hr (by omega) (pa_cons (pv 1) pa_nil)))
      (pss_one (ps_if (PW.pt (pw_and (pt_cmpR op_eq (pe_op op_modN (pv 5) pe_int) pe_int (nomark _)) (pw_and1 (pt_cmpR op_gt (pv 2) pe_int (nomark _))))) (pss_cons (ps_set (i := 6) sc_law_made.nd rfl (Or.inl rfl) (pc0 c_law_expression hr (by omega) (pa_cons (pv 0) (pa_cons pe_str (pa_cons (pv 1) (pa_cons pe_int pa_nil))))))
      (pss_cons (ps_set (i := 7) sc_law_made.nd rfl (Or.inl rfl) (pc0 c_law_made hr (by omega) (pa_cons (pv 0) (pa_cons (pv 1) (pa_cons (pe_op op_sub (pv 2) pe_int) pa_nil)))))
      (pss_one (ps_expr (pe_bm PySem.F.plainAttrs_list PySem.F.slot_list_append PySem.F.type_list_append mt_append (pv 3) (pa_cons (pe_tup (pa_cons pe_str (pa_cons (pv 6) (pa_cons (pv 7) (pa_cons (pc0 c_law_made hr (by omega) (pa_cons (pv 0) (pa_cons (pv 1) (pa_cons (pe_op op_sub (pv 2) pe_int) pa_nil)))) pa_nil))))) pa_nil)))))) (pss_one (ps_if (pt_cmpR op_eq (pe_op op_modN (pv 5) pe_int) pe_int (nomark _)) (pss_one (ps_expr (pe_bm PySem.F.plainAttrs_list PySem.F.slot_list_append PySem.F.type_list_append mt_append (pv 3) (pa_cons (pe_tup (pa_cons pe_str pa_nil)) pa_nil)))) (pss_one (ps_expr (pe_bm PySem.F.plainAttrs_list PySem.F.slot_list_append PySem.F.type_list_append mt_append (pv 3) (pa_cons (pc0 c_law_set hr (by omega) (pa_cons (pv 0) (pa_cons (pv 1) (pa_cons pe_int pa_nil)))) pa_nil))))))))))
      (pss_one (ps_ret (pe_callTy call_tuple_of rfl B.tuple_ (by decide +kernel) (pa_cons (pv 3) pa_nil)))))), ?_⟩
  walk_at "K"
  walk_at "go2"
  rename_i L hL
  have hLa : ¬ L = a := hdr.ne hL
  refine s_for (i_rng ?_)
  walk_at "go2"
  refine ⟨a, rfl, hdr.gr (x := no) (Gr.new hL) id, fun H1 i g1 d1 => ?_⟩
  walk_at "go2"
  obtain ⟨m1, m2⟩ := fmod_lo (a := i) (n := 3) (by decide)
  refine ⟨_, rfl, by omega, by omega, ?_⟩
  have hL1 := g1.lst upd_same hLa
  refine for_range (fun j σ H' => Gr (fun b => b = a) H H' ∧ DrV H' a ∧ (∃ u4 u5 u6 u7, σ = [some sv, some (.ref a), some (.int 0), some (.ref L), u4, u5, u6, u7]) ∧ ∃ vs, H' L = some (.lst vs) ∧ vs.length = j ∧ ∀ v ∈ vs, StmV (namesOf sch) H' 0 v)
    ⟨(Gr.new hL).trans g1, d1, ⟨_, _, _, _, rfl⟩, [], hL1, rfl, (fun v hv => nomatch hv)⟩ ?_ ?_
  · rintro j σ H' hj ⟨g, dr, ⟨u4, u5, u6, u7, rfl⟩, vs, hvs, hlen, hst⟩
    have psh : ∀ {H2 : Hp} {u : V}, Gr (fun b => b = a) H' H2 → DrV H2 a → StmV (namesOf sch) H2 0 u → Gr (fun b => b = a) H (upd H2 L (.lst (vs ++ [u]))) ∧ DrV (upd H2 L (.lst (vs ++ [u]))) a ∧ (∀ v ∈ vs ++ [u], StmV (namesOf sch) (upd H2 L (.lst (vs ++ [u]))) 0 v) ∧ H2 L = some (.lst vs) := fun {H2 u} g2 d2 hu => by
      have hl2 := g2.lst hvs hLa
      have gp : Gr (fun b => b = L) H2 (upd H2 L (.lst (vs ++ [u]))) := Gr.put hl2 rfl
      refine ⟨Gr.own (g.trans g2) hL, d2.gr gp (fun z => hLa z.symm), fun v hv => ?_, hl2⟩
      rcases List.mem_append.mp hv with z | z
      · exact ((hst v z).gr g2).gr gp
      · rw [List.mem_singleton] at z
        rw [z]; exact hu.gr gp
    walk_at "go2"
    refine ⟨a, rfl, dr, fun H2 dv g2 d2 => ?_⟩
    have hvs2 := g2.lst hvs hLa
    have s2 := (hsch.gr g).gr g2
    have oth : ∀ {σ : L2.St}, σ = ([some sv, some (.ref a), some (.int 0), some (.ref L), some (.int (0 + (j : Int))), some (.int dv), u6, u7] : L2.St) → True := fun _ => trivial
    walk_at "go2"
    refine if_i (fun c1 => ?_) (fun c1 => ?_)
    · walk_at "go2"
      refine if_i (fun c3 => ?_) (fun c3 => ?_)
      · walk_at "go2"
        rename_i p hp
        obtain ⟨a1, a2, a3, a4⟩ := psh (g2.trans (Gr.new hp)) (d2.gr (x := no) (Gr.new hp) id) (StmV.of0 ⟨p, rfl, .inl upd_same⟩)
        refine r_app a4 (by omega) ?_
        walk_at "go2"
        exact ⟨a1, a2, ⟨_, _, _, _, rfl⟩, _, upd_same, by simp; omega, a3⟩
      · walk_at "go2"
        refine ⟨sv, a, sch, rfl, s2, d2, fun H3 u g3 d3 hu => ?_⟩
        obtain ⟨a1, a2, a3, a4⟩ := psh (g2.trans g3) d3 (StmV.of0 hu)
        walk_at "go2"
        refine r_app a4 (by omega) ?_
        exact ⟨a1, a2, ⟨_, _, _, _, rfl⟩, _, upd_same, by simp; omega, a3⟩
    · walk_at "go2"
      refine if_i (fun c3 => ?_) (fun c3 => ?_)
      · walk_at "go2"
        rename_i p hp
        obtain ⟨a1, a2, a3, a4⟩ := psh (g2.trans (Gr.new hp)) (d2.gr (x := no) (Gr.new hp) id) (StmV.of0 ⟨p, rfl, .inl upd_same⟩)
        refine r_app a4 (by omega) ?_
        walk_at "go2"
        exact ⟨a1, a2, ⟨_, _, _, _, rfl⟩, _, upd_same, by simp; omega, a3⟩
      · walk_at "go2"
        refine ⟨sv, a, sch, rfl, s2, d2, fun H3 u g3 d3 hu => ?_⟩
        obtain ⟨a1, a2, a3, a4⟩ := psh (g2.trans g3) d3 (StmV.of0 hu)
        walk_at "go2"
        refine r_app a4 (by omega) ?_
        exact ⟨a1, a2, ⟨_, _, _, _, rfl⟩, _, upd_same, by simp; omega, a3⟩
  · rintro σ H' ⟨g, dr, ⟨u4, u5, u6, u7, rfl⟩, vs, hvs, hlen, hst⟩
    walk_at "go2"
    refine ⟨L, vs, rfl, .inl ⟨SqL.of hvs, fun p hp => ?_⟩⟩
    exact q _ _ (g.trans (Gr.new hp)) (dr.gr (x := no) (Gr.new hp) id) ⟨p, vs, rfl, upd_same, by omega, fun x hx => (hst x hx).gr (x := no) (Gr.new hp)⟩
set_option maxHeartbeats 16000000 in
theorem c_made1 (D : DefAt K mg "_law_made" 50 ["_law_schema_here", "_law_draws_here", "_law_depth"]) (B : Blt mg) (c_law_next : Cal P w K mg base CX0 1 "_law_next" ["_law_draws_here"] spNext) (c_law_expression : cExpr P w K mg base 4 (spExprB 2))
    (c_law_set : Cal P w K mg base CX0 5 "_law_set" ["_law_schema_here", "_law_draws_here", "_law_depth"] spSet) (c_law_made : cMade P w K mg base 6 (spMade 0)) : cMade P w K mg base 7 (spMade 1) := by
  refine mk0 D sc_law_made (fun vs H Q E h => by obtain ⟨_, _, _, _, rfl, _⟩ := h; rfl) ?_
  rintro X Q vs H E ⟨f, cdv, A, outer, s, H0, rfl⟩ hr ⟨sv, a, dep, sch, rfl, rfl, hsch, hdr, q⟩
  refine ⟨_, (pss_cons (ps_set (i := 3) sc_law_made.nd rfl (Or.inl rfl) (pe_lst pa_nil))
      (pss_cons (ps_for PassesOwn.never rfl (pi_range1 rfl B.range_ (pa_cons (pe_op op_add pe_int (pe_op op_modN (pc0 c_law_next hr (by omega) (pa_cons (pv 1) pa_nil)) pe_int)) pa_nil)) (pg_name (i := 4) sc_law_made.nd rfl (Or.inl rfl)) (pss_cons (ps_set (i := 5) sc_law_made.nd rfl (Or.inl rfl) (pc0 c_law_next hr (by omega) (pa_cons (pv 1) pa_nil)))
      (pss_one (ps_if (PW.pt (pw_and (pt_cmpR op_eq (pe_op op_modN (pv 5) pe_int) pe_int (nomark _)) (pw_and1 (pt_cmpR op_gt (pv 2) pe_int (nomark _))))) (pss_cons (ps_set (i := 6) sc_law_made.nd rfl (Or.inl rfl) (pc0 c_law_expression hr (by omega) (pa_cons (pv 0) (pa_cons pe_str (pa_cons (pv 1) (pa_cons pe_int pa_nil))))))
      (pss_cons (ps_set (i := 7) sc_law_made.nd rfl (Or.inl rfl) (pc0 c_law_made hr (by omega) (pa_cons (pv 0) (pa_cons (pv 1) (pa_cons (pe_op op_sub (pv 2) pe_int) pa_nil)))))
      (pss_one (ps_expr (pe_bm PySem.F.plainAttrs_list PySem.F.slot_list_append PySem.F.type_list_append mt_append (pv 3) (pa_cons (pe_tup (pa_cons pe_str (pa_cons (pv 6) (pa_cons (pv 7) (pa_cons (pc0 c_law_made hr (by omega) (pa_cons (pv 0) (pa_cons (pv 1) (pa_cons (pe_op op_sub (pv 2) pe_int) pa_nil)))) pa_nil))))) pa_nil)))))) (pss_one (ps_if (pt_cmpR op_eq (pe_op op_modN (pv 5) pe_int) pe_int (nomark _)) (pss_one (ps_expr (pe_bm PySem.F.plainAttrs_list PySem.F.slot_list_append PySem.F.type_list_append mt_append (pv 3) (pa_cons (pe_tup (pa_cons pe_str pa_nil)) pa_nil)))) (pss_one (ps_expr (pe_bm PySem.F.plainAttrs_list PySem.F.slot_list_append PySem.F.type_list_append mt_append (pv 3) (pa_cons (pc0 c_law_set hr (by omega) (pa_cons (pv 0) (pa_cons (pv 1) (pa_cons pe_int pa_nil)))) pa_nil))))))))))
      (pss_one (ps_ret (pe_callTy call_tuple_of rfl B.tuple_ (by decide +kernel) (pa_cons (pv 3) pa_nil)))))), ?_⟩
  walk_at "K"
  walk_at "go2"
  rename_i L hL
  have hLa : ¬ L = a := hdr.ne hL
  refine s_for (i_rng ?_)
  walk_at "go2"
  refine ⟨a, rfl, hdr.gr (x := no) (Gr.new hL) id, fun H1 i g1 d1 => ?_⟩
  walk_at "go2"
  obtain ⟨m1, m2⟩ := fmod_lo (a := i) (n := 3) (by decide)
  refine ⟨_, rfl, by omega, by omega, ?_⟩
  have hL1 := g1.lst upd_same hLa
  refine for_range (fun j σ H' => Gr (fun b => b = a) H H' ∧ DrV H' a ∧ (∃ u4 u5 u6 u7, σ = [some sv, some (.ref a), some (.int 1), some (.ref L), u4, u5, u6, u7]) ∧ ∃ vs, H' L = some (.lst vs) ∧ vs.length = j ∧ ∀ v ∈ vs, StmV (namesOf sch) H' 1 v)
    ⟨(Gr.new hL).trans g1, d1, ⟨_, _, _, _, rfl⟩, [], hL1, rfl, (fun v hv => nomatch hv)⟩ ?_ ?_
  · rintro j σ H' hj ⟨g, dr, ⟨u4, u5, u6, u7, rfl⟩, vs, hvs, hlen, hst⟩
    have psh : ∀ {H2 : Hp} {u : V}, Gr (fun b => b = a) H' H2 → DrV H2 a → StmV (namesOf sch) H2 1 u → Gr (fun b => b = a) H (upd H2 L (.lst (vs ++ [u]))) ∧ DrV (upd H2 L (.lst (vs ++ [u]))) a ∧ (∀ v ∈ vs ++ [u], StmV (namesOf sch) (upd H2 L (.lst (vs ++ [u]))) 1 v) ∧ H2 L = some (.lst vs) := fun {H2 u} g2 d2 hu => by
      have hl2 := g2.lst hvs hLa
      have gp : Gr (fun b => b = L) H2 (upd H2 L (.lst (vs ++ [u]))) := Gr.put hl2 rfl
      refine ⟨Gr.own (g.trans g2) hL, d2.gr gp (fun z => hLa z.symm), fun v hv => ?_, hl2⟩
      rcases List.mem_append.mp hv with z | z
      · exact ((hst v z).gr g2).gr gp
      · rw [List.mem_singleton] at z
        rw [z]; exact hu.gr gp
    walk_at "go2"
    refine ⟨a, rfl, dr, fun H2 dv g2 d2 => ?_⟩
    have hvs2 := g2.lst hvs hLa
    have s2 := (hsch.gr g).gr g2
    have oth : ∀ {σ : L2.St}, σ = ([some sv, some (.ref a), some (.int 1), some (.ref L), some (.int (0 + (j : Int))), some (.int dv), u6, u7] : L2.St) → True := fun _ => trivial
    walk_at "go2"
    refine if_i (fun c1 => ?_) (fun c1 => ?_)
    · walk_at "go2"
      refine ⟨2, by omega, sv, _, a, _, sch, rfl, rfl, s2, .inr (.inl rfl), d2, fun H3 u g3 d3 hu => ?_⟩
      have hvs3 := g3.lst hvs2 hLa
      walk_at "go2"
      refine ⟨sv, a, _, sch, rfl, rfl, s2.gr g3, d3, fun H4 b1 g4 d4 hb1 => ?_⟩
      have hvs4 := g4.lst hvs3 hLa
      walk_at "go2"
      refine ⟨sv, a, _, sch, rfl, rfl, (s2.gr g3).gr g4, d4, fun H5 b2 g5 d5 hb2 => ?_⟩
      have hvs5 := g5.lst hvs4 hLa
      walk_at "go2"
      rename_i p hp
      obtain ⟨p1, xs, rfl, hx1, hx2, hx3⟩ := (hb1.gr g5).gr (x := no) (Gr.new (o := .tup [.str "if", u, b1, b2]) hp)
      obtain ⟨p2, ys, rfl, hy1, hy2, hy3⟩ := hb2.gr (x := no) (Gr.new (o := .tup [.str "if", u, .ref p1, b2]) hp)
      obtain ⟨a1, a2, a3, a4⟩ := psh (((g2.trans g3).trans (g4.trans g5)).trans (Gr.new hp)) (d5.gr (x := no) (Gr.new hp) id)
        (show StmV (namesOf sch) _ 1 (.ref p) from ⟨p, rfl, .inr (.inr ⟨u, p1, p2, xs, ys, upd_same, ((((hu.gr g4).gr g5).gr (x := no) (Gr.new hp)).upTo (by decide)), hx1, hy1, hx2, hy2, hx3, hy3⟩)⟩)
      refine r_app a4 (by omega) ?_
      walk_at "go2"
      exact ⟨a1, a2, ⟨_, _, _, _, rfl⟩, _, upd_same, by simp; omega, a3⟩
    · walk_at "go2"
      refine if_i (fun c3 => ?_) (fun c3 => ?_)
      · walk_at "go2"
        rename_i p hp
        obtain ⟨a1, a2, a3, a4⟩ := psh (g2.trans (Gr.new hp)) (d2.gr (x := no) (Gr.new hp) id) (StmV.of0 ⟨p, rfl, .inl upd_same⟩)
        refine r_app a4 (by omega) ?_
        walk_at "go2"
        exact ⟨a1, a2, ⟨_, _, _, _, rfl⟩, _, upd_same, by simp; omega, a3⟩
      · walk_at "go2"
        refine ⟨sv, a, sch, rfl, s2, d2, fun H3 u g3 d3 hu => ?_⟩
        obtain ⟨a1, a2, a3, a4⟩ := psh (g2.trans g3) d3 (StmV.of0 hu)
        walk_at "go2"
        refine r_app a4 (by omega) ?_
        exact ⟨a1, a2, ⟨_, _, _, _, rfl⟩, _, upd_same, by simp; omega, a3⟩
  · rintro σ H' ⟨g, dr, ⟨u4, u5, u6, u7, rfl⟩, vs, hvs, hlen, hst⟩
    walk_at "go2"
    refine ⟨L, vs, rfl, .inl ⟨SqL.of hvs, fun p hp => ?_⟩⟩
    exact q _ _ (g.trans (Gr.new hp)) (dr.gr (x := no) (Gr.new hp) id) ⟨p, vs, rfl, upd_same, by omega, fun x hx => (hst x hx).gr (x := no) (Gr.new hp)⟩
end
end Snk
set_option Elab.async false
set_option linter.all false
set_option maxRecDepth 100000
set_option maxHeartbeats 4000000
namespace Snk
open PySem PySem.Spec PyProof.Rows L2 GxR GxT
local macro_rules | `(tactic| walk_at "K") => `(tactic| try simp only [ws_K, ws_P, ws_w, cx_K, cx_P, cx_w])
local macro_rules | `(tactic| walk_at "isi") => `(tactic| first
  | with_reducible refine r_isB (.base (.int _)) kk_int_int ?_ | with_reducible refine r_isB (.base (.int _)) kk_int_bool ?_ | with_reducible refine r_isB (.base (.int _)) kk_int_str ?_ | with_reducible refine r_isB (.base (.int _)) kk_int_tuple ?_ | with_reducible refine r_isB (.base (.bl _)) kk_bool_int ?_ | with_reducible refine r_isB (.base (.bl _)) kk_bool_bool ?_ | with_reducible refine r_isB (.base (.bl _)) kk_bool_str ?_ | with_reducible refine r_isB (.base (.bl _)) kk_bool_tuple ?_ | with_reducible refine r_isB (.base (.str _)) kk_str_int ?_ | with_reducible refine r_isB (.base (.str _)) kk_str_bool ?_ | with_reducible refine r_isB (.base (.str _)) kk_str_str ?_ | with_reducible refine r_isB (.base (.str _)) kk_str_tuple ?_ | with_reducible refine r_isB (.base .non) kk_NoneType_int ?_ | with_reducible refine r_isB (.base .non) kk_NoneType_bool ?_ | with_reducible refine r_isB (.base .non) kk_NoneType_str ?_ | with_reducible refine r_isB (.base .non) kk_NoneType_tuple ?_ | with_reducible refine r_isB (.base (.tup (by assumption))) kk_tuple_int ?_ | with_reducible refine r_isB (.base (.tup (by assumption))) kk_tuple_bool ?_ | with_reducible refine r_isB (.base (.tup (by assumption))) kk_tuple_str ?_ | with_reducible refine r_isB (.base (.tup (by assumption))) kk_tuple_tuple ?_)
local macro_rules | `(tactic| tb_rel) => `(tactic| first | assumption | exact upd_same | ((refine look_old ?hl ?hn); (case hn => assumption); (case hl => tb_rel)) | ((refine Gr.tup (by assumption) _ _ ?hl); (case hl => tb_rel)))
local macro_rules | `(tactic| tb_start) => `(tactic| first
  | ((with_reducible refine' r_var ?hvar ?_); (case hvar => exact rfl))
  | with_reducible refine r_c ?_ | with_reducible refine r_op ?_ | with_reducible refine r_un ?_ | with_reducible refine r_chain ?_ | with_reducible refine r_tup ?_ | with_reducible refine r_lst ?_ | with_reducible refine r_cons ?_ | with_reducible refine r_nil ?_ | with_reducible refine r_cb ?_ | with_reducible refine r_call ?_ | with_reducible refine r_bm ?_ | with_reducible refine r_bm0 ?_ | with_reducible refine r_sl ?_ | with_reducible refine r_test ?_ | with_reducible refine r_tb ?_ | with_reducible refine r_tand ?_ | with_reducible refine r_tor ?_ | with_reducible refine r_tnot ?_ | with_reducible refine r_andV ?_ | with_reducible refine r_orV ?_ | with_reducible refine r_notV ?_ | with_reducible refine r_ife ?_ | with_reducible refine s_seq ?_ | with_reducible refine s_nextM ?_ | with_reducible refine s_next ?_ | with_reducible refine s_ret ?_ | with_reducible refine s_if ?_ | with_reducible refine s_asg ?_ | with_reducible refine s_drop ?_ | with_reducible refine s_cont ?_ | with_reducible refine s_break ?_ | with_reducible refine g_name ?_ | with_reducible refine r_I0 ?_ | with_reducible refine r_U ?_ | with_reducible refine k_bl2 ?_ | with_reducible refine r_part ?_ | with_reducible refine r_nopart ?_ | with_reducible refine if_tt ?_ | with_reducible refine if_ff ?_ | with_reducible refine if_nf ?_ | with_reducible refine if_nt ?_
  | ((with_reducible refine' r_eq ?hsc ?_); (case hsc => exact rfl)) | ((with_reducible refine' r_ne ?hsc ?_); (case hsc => exact rfl)) | ((with_reducible refine isi_g ?_); walk_at "isi") | (first | ((with_reducible refine' r_ixT ?hix ?eix ?_); (case hix => tb_rel); (case eix => first | exact at0 | exact at1 | exact at2 | rfl))) | ((with_reducible refine' if_t ?hc ?_); (case hc => decide +kernel)) | ((with_reducible refine' if_f ?hc ?_); (case hc => decide +kernel)))
local macro_rules | `(tactic| walk_at "go") => `(tactic| repeat tb_start)
local macro_rules | `(tactic| walk_at "gr") => `(tactic| first | exact Gr.refl _ _ | assumption | ((refine Gr.trans ?ga (Gr.new ?gn)); (case gn => assumption); (case ga => walk_at "gr")) | ((refine' Gr.trans ?ga ?gb); (case gb => assumption); (case ga => walk_at "gr")))
local macro_rules | `(tactic| walk_at "go2") => `(tactic| repeat (first | tb_start | (((with_reducible refine' And.intro ?hz ?_); (case hz => (refine sz10 ?_; first | decide | (simp; done) | (simp; omega))); intro p hp)) | (first | ((with_reducible refine' r_inT ?hs ?hf ?ha ?_); (case hs => first | assumption | exact SqT.of (by tb_rel)); (case hf => rfl); (case ha => first | rfl | decide +kernel | exact flat_strs)) | ((with_reducible refine' r_niT ?hs ?hf ?ha ?_); (case hs => first | assumption | exact SqT.of (by tb_rel)); (case hf => rfl); (case ha => first | rfl | decide +kernel | exact flat_strs)))))
local macro_rules | `(tactic| tb_start) => `(tactic| with_reducible refine k_int ?_)
local macro_rules | `(tactic| tb_start) => `(tactic| ((with_reducible refine' And.intro (ty_lst ?ht) ?_); (case ht => tb_rel)))
local macro_rules | `(tactic| tb_start) => `(tactic| ((with_reducible refine' s_aug ?h1 ?_); (case h1 => exact rfl)))
local macro_rules | `(tactic| tb_start) => `(tactic| with_reducible refine r_ip ?_)
local macro_rules | `(tactic| tb_start) => `(tactic| with_reducible refine r_gsub ?_)
local macro_rules | `(tactic| tb_rel) => `(tactic| first | assumption | exact upd_same | ((with_reducible refine look_old ?hl ?hn); (case hn => assumption); (case hl => tb_rel)) | ((with_reducible refine' look_n ?h1 ?nn); (case nn => first | assumption | exact Ne.symm (by assumption)); (case h1 => tb_rel)) | ((with_reducible refine' look_t ?h1 ?h2); (case h2 => tb_rel); (case h1 => tb_rel)) | ((with_reducible refine' look_td ?h1 ?h2); (case h2 => tb_rel); (case h1 => tb_rel)) | ((with_reducible refine' look_ld ?h1 ?h2); (case h2 => tb_rel); (case h1 => tb_rel)) | ((refine Gr.tup (by assumption) _ _ ?hl); (case hl => tb_rel)))
local macro_rules | `(tactic| tb_start) => `(tactic| ((with_reducible refine' r_I ?hc ?_); (case hc => first | exact (show (_ : Int) ≠ 0 by decide) | exact ⟨by decide, by decide⟩ | exact Or.inr ⟨by decide, by decide⟩ | exact ⟨by decide, by decide, by decide⟩)))
local macro_rules | `(tactic| tb_start) => `(tactic| with_reducible refine (Or.inl ⟨_, rfl, ?_⟩ : (∃ j, [V.int _] = [V.int j] ∧ _) ∨ _))
theorem r_slG {K : PySem.W.Frag} {H : Hp} {a : Addr} {xs : List V} {lo hi : Option Int} {Q : VK} (h : H a = some (.tup xs)) (q : ∀ p H' ys, Gr no H H' → H' p = some (.tup ys) → (∀ y ∈ ys, y ∈ xs) → ys.length ≤ xs.length → Q (.ref p) H') : rSlA K (.ref a) lo hi H Q :=
  ⟨a, xs, rfl, SqT.of h, fun _ => q a H xs (Gr.refl _ _) h (fun _ z => z) (Nat.le_refl _), fun _ p hp => q p _ _ (Gr.new hp) upd_same (fun y hy => by
    unfold cutV at hy
    exact List.mem_of_mem_drop (List.mem_of_mem_take hy)) (cutV_length _ _ _)⟩
def LEAFS : List V := [.str "int", .str "flag", .str "word", .str "text", .str "field"]
theorem nodes_not {hd : Str} (h : hd ∈ NODES) : inV (.str hd) LEAFS = false := by
  have k : NODES.all (fun s => !inV (.str s) LEAFS) = true := by decide +kernel
  have := List.all_eq_true.mp k hd h
  simpa using this
theorem ops_not {hd : Str} (h : hd = "div" ∨ hd = "mod" ∨ hd = "cut") : inV (.str hd) LEAFS = false := by
  rcases h with rfl | rfl | rfl <;> decide +kernel
theorem ExV.parts {nms : List Str} {H : Hp} {n : Nat} {v : V} (h : ExV nms H (n + 1) v) : ∃ a hd xs, v = .ref a ∧ H a = some (.tup (.str hd :: xs)) ∧ 1 ≤ xs.length ∧ xs.length ≤ 3 ∧ ∀ y ∈ xs, Fl y ∨ (ExV nms H n y ∧ inV (.str hd) LEAFS = false) := by
  obtain ⟨a, rfl, ⟨hd, x, h1, h2⟩ | ⟨hd, y, k, h1, h2, h3⟩ | ⟨hd, es, h1, h2, h3, h4, h5⟩⟩ := h
  · refine ⟨a, hd, [x], rfl, h1, by simp, by simp, fun y hy => .inl ?_⟩
    rw [List.mem_singleton] at hy
    subst hy
    rcases h2 with ⟨_, s, rfl, _⟩ | ⟨_, h⟩ | ⟨_, s, rfl, hs⟩
    · trivial
    · exact h.fl
    · trivial
  · refine ⟨a, hd, [y, .int k], rfl, h1, by simp, by simp, fun z hz => ?_⟩
    simp only [List.mem_cons, List.not_mem_nil, or_false] at hz
    rcases hz with rfl | rfl
    · exact .inr ⟨h3, ops_not h2⟩
    · exact .inl trivial
  · exact ⟨a, hd, es, rfl, h1, h3, h4, fun z hz => .inr ⟨h5 z hz, nodes_not h2⟩⟩
section
variable {P : Program} {w : World} {K : PySem.W.Frag} {mg : Str → Option Value} {base : Heap} {CX : CXT}
/-! ### _law_nodes -/
abbrev nm_law_nodes : List Str := ["_law_e", "_law_total", "_law_part"]
theorem sc_law_nodes : FnScope nm_law_nodes ["_law_e"] (defScope (topS 51)) := ⟨rfl, rfl, rfl, by decide +kernel, rfl, by decide +kernel, by decide +kernel⟩
-- slots: 0:_law_e 1:_law_total 2:_law_part
def spNodes (n : Nat) : Sp := fun vs H Q _ => ∃ (v : V) (nms : List Str), vs = [v] ∧ ExV nms H n v ∧ ∀ H' i, Gr no H H' → Q (.int i) H'
theorem c_nodes (D : DefAt K mg "_law_nodes" 51 ["_law_e"]) (B : Blt mg) : ∀ n : Nat, Cal P w K mg base CX0 (n + 1) "_law_nodes" ["_law_e"] (spNodes n)
  | 0 => (cal_no D).imp fun vs H Q E h => by obtain ⟨_, _, _, h, _⟩ := h; exact h.elim
  | n + 1 => by
    have c_law_nodes := c_nodes D B n
    refine mk0 D sc_law_nodes (fun vs H Q E h => by obtain ⟨_, _, rfl, _⟩ := h; rfl) ?_
    rintro X Q vs H E ⟨f, cdv, A, outer, s, H0, rfl⟩ hr ⟨v, nms, rfl, hv, q⟩
    refine ⟨_, (pss_cons (ps_set (i := 1) sc_law_nodes.nd rfl (Or.inl rfl) pe_int)
      (pss_cons (ps_for PassesOwn.never rfl (pi_tup (pe_slice sl_tupA (pv 0) (po_some pe_int) po_none)) (pg_name (i := 2) sc_law_nodes.nd rfl (Or.inl rfl)) (pss_one (ps_if (PW.pt (pw_and (pt_val (pe_callB call_isi rfl B.isinstance_ (by decide +kernel) (pa_cons (pv 2) (pa_cons (pe_bltn (v := .ty "tuple") rfl B.tuple_ (by decide +kernel) rfl) pa_nil)))) (pw_and1 (pt_cmpR op_notIn_seq (pe_ix ix_tup (pv 0) pe_int (fun _ _ => rfl)) (pe_tup (pa_cons pe_str (pa_cons pe_str (pa_cons pe_str (pa_cons pe_str (pa_cons pe_str pa_nil)))))) (by rfl))))) (pss_one (ps_aug (i := 1) sc_law_nodes.nd rfl (Or.inl rfl) (pc0 c_law_nodes hr (by omega) (pa_cons (pv 2) pa_nil)) ip_add)) pss_nil)))
      (pss_one (ps_ret (pv 1))))), ?_⟩
    walk_at "K"
    obtain ⟨a, hd, xs, rfl, ha, h1, h3, hp⟩ := hv.parts
    walk_at "go2"
    refine s_for (i_tup ?_)
    walk_at "go2"
    refine r_slT1 ha fun p hp' => ?_
    refine ⟨p, rfl, ⟨_, SqT.of upd_same⟩, ?_⟩
    refine for_tup (K := K) (a := p) (xs := xs) (fun i σ H' => Gr no H H' ∧ H' p = some (.tup xs) ∧ ∃ t u, σ = [some (.ref a), some (.int t), u]) ⟨Gr.new hp', upd_same, _, _, rfl⟩ (fun i σ H' _ z => SqT.of z.2.1) ?_ ?_
    · rintro i y σ H' hy ⟨g, hp2, t, u, rfl⟩
      have ha' := g.tup _ _ ha
      rcases hp y (List.mem_of_getElem? hy) with fl | ⟨he, hin⟩
      · cases y with
        | int z =>
          walk_at "go2"
          exact ⟨g, hp2, _, _, rfl⟩
        | bl z =>
          walk_at "go2"
          exact ⟨g, hp2, _, _, rfl⟩
        | str z =>
          walk_at "go2"
          exact ⟨g, hp2, _, _, rfl⟩
        | non =>
          walk_at "go2"
          exact ⟨g, hp2, _, _, rfl⟩
        | _ => exact fl.elim
      · have he' := he.gr g
        obtain ⟨b, rfl, hb⟩ : ∃ b, y = V.ref b ∧ ∃ ys, H' b = some (.tup ys) := by
          cases n with
          | zero => exact he'.elim
          | succ m =>
            obtain ⟨b, hd2, ys, e, hb, _⟩ := he'.parts
            exact ⟨b, e, _, hb⟩
        obtain ⟨ys, hb⟩ := hb
        have hs : SqT K H' b ys := SqT.of hb
        walk_at "go2"
        refine if_t (by show (!inV (.str hd) LEAFS) = true; rw [hin]; rfl) ?_
        walk_at "go2"
        refine ⟨.ref b, nms, rfl, he'.gr (x := no) (Gr.new (by assumption)), fun H2 j g2 => ?_⟩
        walk_at "go2"
        exact ⟨g.trans (Gr.trans (Gr.new (by assumption)) g2), g2.tup _ _ (look_old hp2 (by assumption)), _, _, rfl⟩
    · rintro σ H' ⟨g, hp2, t, u, rfl⟩
      walk_at "go2"
      exact q _ _ g
/-! ### _law_size -/
abbrev nm_law_size : List Str := ["_law_program_here", "_law_total", "_law_row"]
theorem sc_law_size : FnScope nm_law_size ["_law_program_here"] (defScope (topS 52)) := ⟨rfl, rfl, rfl, by decide +kernel, rfl, by decide +kernel, by decide +kernel⟩
-- slots: 0:_law_program_here 1:_law_total 2:_law_row
def spSize (n : Nat) : Sp := fun vs H Q _ => ∃ (v : V) (nms : List Str), vs = [v] ∧ BlkV nms H n v ∧ ∀ H' i, Gr no H H' → Q (.int i) H'
abbrev dSize (K : PySem.W.Frag) (mg : Str → Option Value) : Prop := DefAt K mg "_law_size" 52 ["_law_program_here"]
theorem c_size0 (D : dSize K mg) (B : Blt mg) (c_law_nodes : Cal P w K mg base CX0 8 "_law_nodes" ["_law_e"] (spNodes 7)) : Cal P w K mg base CX0 9 "_law_size" ["_law_program_here"] (spSize 0) := by
  have c_law_size : Cal P w K mg base CX0 0 "_law_size" ["_law_program_here"] (fun _ _ _ _ => False) := cal_no D
  refine mk0 D sc_law_size (fun vs H Q E h => by obtain ⟨_, _, rfl, _⟩ := h; rfl) ?_
  rintro X Q vs H E ⟨f, cdv, A, outer, s, H0, rfl⟩ hr ⟨v, nms, rfl, ⟨a, xs, rfl, ha, hl, hx⟩, q⟩
  refine ⟨_, (pss_cons (ps_set (i := 1) sc_law_size.nd rfl (Or.inl rfl) pe_int)
      (pss_cons (ps_for PassesOwn.never rfl (pi_tup (pv 0)) (pg_name (i := 2) sc_law_size.nd rfl (Or.inl rfl)) (pss_cons (ps_aug (i := 1) sc_law_size.nd rfl (Or.inl rfl) pe_int ip_add)
      (pss_one (ps_if (pt_cmpR op_eq (pe_ix ix_tup (pv 2) pe_int (fun _ _ => rfl)) pe_str (nomark _)) (pss_one (ps_aug (i := 1) sc_law_size.nd rfl (Or.inl rfl) (pc0 c_law_nodes hr (by omega) (pa_cons (pe_ix ix_tup (pv 2) pe_int (fun _ _ => rfl)) pa_nil)) ip_add)) (pss_one (ps_if (pt_cmpR op_eq (pe_ix ix_tup (pv 2) pe_int (fun _ _ => rfl)) pe_str (nomark _)) (pss_one (ps_aug (i := 1) sc_law_size.nd rfl (Or.inl rfl) (pe_op op_add (pe_op op_add (pc0 c_law_nodes hr (by omega) (pa_cons (pe_ix ix_tup (pv 2) pe_int (fun _ _ => rfl)) pa_nil)) (pc0 c_law_size hr (by omega) (pa_cons (pe_ix ix_tup (pv 2) pe_int (fun _ _ => rfl)) pa_nil))) (pc0 c_law_size hr (by omega) (pa_cons (pe_ix ix_tup (pv 2) pe_int (fun _ _ => rfl)) pa_nil))) ip_add)) pss_nil))))))
      (pss_one (ps_ret (pv 1))))), ?_⟩
  walk_at "K"
  walk_at "go2"
  refine s_for (i_tup ?_)
  walk_at "go2"
  refine ⟨a, rfl, ⟨_, SqT.of ha⟩, ?_⟩
  refine for_tup (K := K) (a := a) (xs := xs) (fun i σ H' => Gr no H H' ∧ ∃ t u, σ = [some (.ref a), some (.int t), u]) ⟨Gr.refl _ _, _, _, rfl⟩ (fun i σ H' _ z => SqT.of (z.1.tup _ _ ha)) ?_ ?_
  · rintro i y σ H' hy ⟨g, t, u, rfl⟩
    have hst := (hx y (List.mem_of_getElem? hy)).gr g
    obtain ⟨b, rfl, hb | ⟨sn, e, hb, hsn, he⟩⟩ := hst
    · walk_at "go2"
      exact ⟨g, _, _, rfl⟩
    · walk_at "go2"
      refine ⟨e, nms, rfl, he, fun H2 j g2 => ?_⟩
      walk_at "go2"
      exact ⟨g.trans g2, _, _, rfl⟩
  · rintro σ H' ⟨g, t, u, rfl⟩
    walk_at "go2"
    exact q _ _ g
theorem c_size1 (D : dSize K mg) (B : Blt mg) (c_law_nodes : Cal P w K mg base CX0 8 "_law_nodes" ["_law_e"] (spNodes 7)) (c_law_size : Cal P w K mg base CX0 9 "_law_size" ["_law_program_here"] (spSize 0)) : Cal P w K mg base CX0 10 "_law_size" ["_law_program_here"] (spSize 1) := by
  refine mk0 D sc_law_size (fun vs H Q E h => by obtain ⟨_, _, rfl, _⟩ := h; rfl) ?_
  rintro X Q vs H E ⟨f, cdv, A, outer, s, H0, rfl⟩ hr ⟨v, nms, rfl, ⟨a, xs, rfl, ha, hl, hx⟩, q⟩
  refine ⟨_, (pss_cons (ps_set (i := 1) sc_law_size.nd rfl (Or.inl rfl) pe_int)
      (pss_cons (ps_for PassesOwn.never rfl (pi_tup (pv 0)) (pg_name (i := 2) sc_law_size.nd rfl (Or.inl rfl)) (pss_cons (ps_aug (i := 1) sc_law_size.nd rfl (Or.inl rfl) pe_int ip_add)
      (pss_one (ps_if (pt_cmpR op_eq (pe_ix ix_tup (pv 2) pe_int (fun _ _ => rfl)) pe_str (nomark _)) (pss_one (ps_aug (i := 1) sc_law_size.nd rfl (Or.inl rfl) (pc0 c_law_nodes hr (by omega) (pa_cons (pe_ix ix_tup (pv 2) pe_int (fun _ _ => rfl)) pa_nil)) ip_add)) (pss_one (ps_if (pt_cmpR op_eq (pe_ix ix_tup (pv 2) pe_int (fun _ _ => rfl)) pe_str (nomark _)) (pss_one (ps_aug (i := 1) sc_law_size.nd rfl (Or.inl rfl) (pe_op op_add (pe_op op_add (pc0 c_law_nodes hr (by omega) (pa_cons (pe_ix ix_tup (pv 2) pe_int (fun _ _ => rfl)) pa_nil)) (pc0 c_law_size hr (by omega) (pa_cons (pe_ix ix_tup (pv 2) pe_int (fun _ _ => rfl)) pa_nil))) (pc0 c_law_size hr (by omega) (pa_cons (pe_ix ix_tup (pv 2) pe_int (fun _ _ => rfl)) pa_nil))) ip_add)) pss_nil))))))
      (pss_one (ps_ret (pv 1))))), ?_⟩
  walk_at "K"
  walk_at "go2"
  refine s_for (i_tup ?_)
  walk_at "go2"
  refine ⟨a, rfl, ⟨_, SqT.of ha⟩, ?_⟩
  refine for_tup (K := K) (a := a) (xs := xs) (fun i σ H' => Gr no H H' ∧ ∃ t u, σ = [some (.ref a), some (.int t), u]) ⟨Gr.refl _ _, _, _, rfl⟩ (fun i σ H' _ z => SqT.of (z.1.tup _ _ ha)) ?_ ?_
  · rintro i y σ H' hy ⟨g, t, u, rfl⟩
    have hst := (hx y (List.mem_of_getElem? hy)).gr g
    obtain ⟨b, rfl, hb | ⟨sn, e, hb, hsn, he⟩ | ⟨c, b1, b2, xs1, ys1, hb, hc, hb1, hb2, hl1, hl2, hx1, hx2⟩⟩ := hst
    · walk_at "go2"
      exact ⟨g, _, _, rfl⟩
    · walk_at "go2"
      refine ⟨e, nms, rfl, he, fun H2 j g2 => ?_⟩
      walk_at "go2"
      exact ⟨g.trans g2, _, _, rfl⟩
    · walk_at "go2"
      refine ⟨c, nms, rfl, hc, fun H2 j g2 => ?_⟩
      have hb' := g2.tup _ _ hb
      walk_at "go2"
      refine ⟨.ref b1, nms, rfl, BlkV.gr g2 ⟨b1, xs1, rfl, hb1, hl1, hx1⟩, fun H3 j3 g3 => ?_⟩
      have hb3 := g3.tup _ _ hb'
      walk_at "go2"
      refine ⟨.ref b2, nms, rfl, BlkV.gr (g2.trans g3) ⟨b2, ys1, rfl, hb2, hl2, hx2⟩, fun H4 j4 g4 => ?_⟩
      walk_at "go2"
      exact ⟨g.trans ((g2.trans g3).trans g4), _, _, rfl⟩
  · rintro σ H' ⟨g, t, u, rfl⟩
    walk_at "go2"
    exact q _ _ g
/-! ### _law_program -/
abbrev nm_law_program : List Str := ["_law_schema_here", "_law_draws_here", "_law_depth", "_law_program_here", "_law_k"]
theorem sc_law_program : FnScope nm_law_program ["_law_schema_here", "_law_draws_here", "_law_depth"] (defScope (topS 53)) := ⟨rfl, rfl, rfl, by decide +kernel, rfl, by decide +kernel, by decide +kernel⟩
-- slots: 0:_law_schema_here 1:_law_draws_here 2:_law_depth 3:_law_program_here 4:_law_k
def spProgram : Sp := fun vs H Q _ => ∃ (sv : V) (a : Addr) (sch : Sch), vs = [sv, .ref a, .int 1] ∧ SchV H sv sch ∧ DrV H a ∧ ∀ H' u, Gr (fun b => b = a) H H' → DrV H' a → BlkV (namesOf sch) H' 1 u → Q u H'
theorem c_law_program (D : DefAt K mg "_law_program" 53 ["_law_schema_here", "_law_draws_here", "_law_depth"]) (B : Blt mg) (c_law_made : cMade P w K mg base 7 (spMade 1)) (c_law_size : Cal P w K mg base CX0 10 "_law_size" ["_law_program_here"] (spSize 1)) : Cal P w K mg base CX0 11 "_law_program" ["_law_schema_here", "_law_draws_here", "_law_depth"] spProgram := by
  refine mk0 D sc_law_program (fun vs H Q E h => by obtain ⟨_, _, _, rfl, _⟩ := h; rfl) ?_
  rintro X Q vs H E ⟨f, cdv, A, outer, s, H0, rfl⟩ hr ⟨sv, a, sch, rfl, hsch, hdr, q⟩
  refine ⟨_, (pss_cons (ps_set (i := 3) sc_law_program.nd rfl (Or.inl rfl) (pc0 c_law_made hr (by decide) (pa_cons (pv 0) (pa_cons (pv 1) (pa_cons (pv 2) pa_nil)))))
      (pss_cons (ps_for PassesOwn.never rfl (pi_range1 rfl B.range_ (pa_cons pe_int pa_nil)) (pg_name (i := 4) sc_law_program.nd rfl (Or.inl rfl)) (pss_one (ps_if (PW.pt (pw_and (pt_cmpR op_gt (pc0 c_law_size hr (by decide) (pa_cons (pv 3) pa_nil)) pe_int (nomark _)) (pw_and1 (pt_cmpR op_gt (pe_callB call_len_seq rfl B.len_ PySem.boot_len (pa_cons (pv 3) pa_nil)) pe_int (nomark _))))) (pss_one (ps_set (i := 3) sc_law_program.nd rfl (Or.inl rfl) (pe_slice sl_tupA (pv 3) po_none (po_some (pe_un un_neg pe_int))))) pss_nil)))
      (pss_cons (ps_if (pt_cmpR op_gt (pc0 c_law_size hr (by decide) (pa_cons (pv 3) pa_nil)) pe_int (nomark _)) (pss_one (ps_ret (pe_tup (pa_cons (pe_tup (pa_cons pe_str pa_nil)) pa_nil)))) pss_nil)
      (pss_one (ps_ret (pv 3)))))), ?_⟩
  walk_at "K"
  walk_at "go2"
  refine ⟨sv, a, _, sch, rfl, rfl, hsch, hdr, fun H1 u g1 d1 hu => ?_⟩
  walk_at "go2"
  refine s_for (i_rng ?_)
  walk_at "go2"
  refine ⟨_, rfl, by decide, by decide, ?_⟩
  refine for_range (n := 3) (fun j σ H' => Gr no H1 H' ∧ ∃ u w4, σ = [some sv, some (.ref a), some (.int 1), some u, w4] ∧ BlkV (namesOf sch) H' 1 u) ⟨Gr.refl _ _, _, _, rfl, hu⟩ ?_ ?_
  · rintro j σ H' hj ⟨g, u, w4, rfl, hu⟩
    walk_at "go2"
    refine ⟨u, _, rfl, hu, fun H2 z g2 => ?_⟩
    have hu2 := hu.gr g2
    walk_at "go2"
    refine if_dec (fun c1 => ?_) (fun c1 => ?_)
    · obtain ⟨p, xs, rfl, hp, hl, hx⟩ := id hu2
      walk_at "go2"
      refine ⟨p, xs, rfl, .inr (SqT.of hp), ?_⟩
      walk_at "go2"
      refine if_dec (fun c2 => ?_) (fun c2 => ?_)
      · walk_at "go2"
        refine r_slG hp fun p3 H3 ys g3 e3 hy hyl => ?_
        walk_at "go2"
        exact ⟨(g.trans g2).trans g3, _, _, rfl, p3, ys, rfl, e3, by omega, fun y hyy => (hx y (hy y hyy)).gr g3⟩
      · walk_at "go2"
        exact ⟨g.trans g2, _, _, rfl, hu2⟩
    · walk_at "go2"
      exact ⟨g.trans g2, _, _, rfl, hu2⟩
  · rintro σ H' ⟨g, u, w4, rfl, hu⟩
    walk_at "go2"
    refine ⟨u, _, rfl, hu, fun H2 z g2 => ?_⟩
    walk_at "go2"
    refine if_dec (fun c1 => ?_) (fun c1 => ?_)
    · walk_at "go2"
      rename_i p1 hp1 p2 hp2
      have gg : Gr no H1 (upd (upd H2 p1 (.tup [.str "skip"])) p2 (.tup [.ref p1])) := ((g.trans g2).trans (Gr.new hp1)).trans (Gr.new hp2)
      refine q _ _ (g1.trans gg.any) (d1.gr gg id) ⟨p2, _, rfl, upd_same, by simp, fun x hx => ?_⟩
      rw [List.mem_singleton] at hx
      rw [hx]
      exact StmV.of0 ⟨p1, rfl, .inl (look_old upd_same hp2)⟩
    · walk_at "go2"
      exact q _ _ (g1.trans (g.trans g2).any) (d1.gr (g.trans g2) id) (hu.gr g2)
end
end Snk
set_option Elab.async false
set_option linter.all false
set_option maxRecDepth 100000
set_option maxHeartbeats 4000000
namespace Snk
open PySem PySem.Spec PyProof.Rows L2 GxR GxT
local macro_rules | `(tactic| walk_at "K") => `(tactic| try simp only [ws_K, ws_P, ws_w, cx_K, cx_P, cx_w])
local macro_rules | `(tactic| walk_at "isi") => `(tactic| first
  | with_reducible refine r_isB (.base (.int _)) kk_int_int ?_ | with_reducible refine r_isB (.base (.int _)) kk_int_bool ?_ | with_reducible refine r_isB (.base (.int _)) kk_int_str ?_ | with_reducible refine r_isB (.base (.int _)) kk_int_tuple ?_ | with_reducible refine r_isB (.base (.bl _)) kk_bool_int ?_ | with_reducible refine r_isB (.base (.bl _)) kk_bool_bool ?_ | with_reducible refine r_isB (.base (.bl _)) kk_bool_str ?_ | with_reducible refine r_isB (.base (.bl _)) kk_bool_tuple ?_ | with_reducible refine r_isB (.base (.str _)) kk_str_int ?_ | with_reducible refine r_isB (.base (.str _)) kk_str_bool ?_ | with_reducible refine r_isB (.base (.str _)) kk_str_str ?_ | with_reducible refine r_isB (.base (.str _)) kk_str_tuple ?_ | with_reducible refine r_isB (.base .non) kk_NoneType_int ?_ | with_reducible refine r_isB (.base .non) kk_NoneType_bool ?_ | with_reducible refine r_isB (.base .non) kk_NoneType_str ?_ | with_reducible refine r_isB (.base .non) kk_NoneType_tuple ?_ | with_reducible refine r_isB (.base (.tup (by assumption))) kk_tuple_int ?_ | with_reducible refine r_isB (.base (.tup (by assumption))) kk_tuple_bool ?_ | with_reducible refine r_isB (.base (.tup (by assumption))) kk_tuple_str ?_ | with_reducible refine r_isB (.base (.tup (by assumption))) kk_tuple_tuple ?_)
local macro_rules | `(tactic| tb_rel) => `(tactic| first | assumption | exact upd_same | ((refine look_old ?hl ?hn); (case hn => assumption); (case hl => tb_rel)) | ((refine Gr.tup (by assumption) _ _ ?hl); (case hl => tb_rel)))
local macro_rules | `(tactic| tb_start) => `(tactic| first
  | ((with_reducible refine' r_var ?hvar ?_); (case hvar => exact rfl))
  | with_reducible refine r_c ?_ | with_reducible refine r_op ?_ | with_reducible refine r_un ?_ | with_reducible refine r_chain ?_ | with_reducible refine r_tup ?_ | with_reducible refine r_lst ?_ | with_reducible refine r_cons ?_ | with_reducible refine r_nil ?_ | with_reducible refine r_cb ?_ | with_reducible refine r_call ?_ | with_reducible refine r_bm ?_ | with_reducible refine r_bm0 ?_ | with_reducible refine r_sl ?_ | with_reducible refine r_test ?_ | with_reducible refine r_tb ?_ | with_reducible refine r_tand ?_ | with_reducible refine r_tor ?_ | with_reducible refine r_tnot ?_ | with_reducible refine r_andV ?_ | with_reducible refine r_orV ?_ | with_reducible refine r_notV ?_ | with_reducible refine r_ife ?_ | with_reducible refine s_seq ?_ | with_reducible refine s_nextM ?_ | with_reducible refine s_next ?_ | with_reducible refine s_ret ?_ | with_reducible refine s_if ?_ | with_reducible refine s_asg ?_ | with_reducible refine s_drop ?_ | with_reducible refine s_cont ?_ | with_reducible refine s_break ?_ | with_reducible refine g_name ?_ | with_reducible refine r_I0 ?_ | with_reducible refine r_U ?_ | with_reducible refine k_bl2 ?_ | with_reducible refine r_part ?_ | with_reducible refine r_nopart ?_ | with_reducible refine if_tt ?_ | with_reducible refine if_ff ?_ | with_reducible refine if_nf ?_ | with_reducible refine if_nt ?_
  | ((with_reducible refine' r_eq ?hsc ?_); (case hsc => exact rfl)) | ((with_reducible refine' r_ne ?hsc ?_); (case hsc => exact rfl)) | ((with_reducible refine isi_g ?_); walk_at "isi") | (first | ((with_reducible refine' r_ixT ?hix ?eix ?_); (case hix => tb_rel); (case eix => first | exact at0 | exact at1 | exact at2 | rfl))) | ((with_reducible refine' if_t ?hc ?_); (case hc => decide +kernel)) | ((with_reducible refine' if_f ?hc ?_); (case hc => decide +kernel)))
local macro_rules | `(tactic| walk_at "go") => `(tactic| repeat tb_start)
local macro_rules | `(tactic| walk_at "gr") => `(tactic| first | exact Gr.refl _ _ | assumption | ((refine Gr.trans ?ga (Gr.new ?gn)); (case gn => assumption); (case ga => walk_at "gr")) | ((refine' Gr.trans ?ga ?gb); (case gb => assumption); (case ga => walk_at "gr")))
local macro_rules | `(tactic| walk_at "go2") => `(tactic| repeat (first | tb_start | (((with_reducible refine' And.intro ?hz ?_); (case hz => (refine sz10 ?_; first | decide | (simp; done) | (simp; omega))); intro p hp)) | (first | ((with_reducible refine' r_inT ?hs ?hf ?ha ?_); (case hs => first | assumption | exact SqT.of (by tb_rel)); (case hf => rfl); (case ha => first | rfl | decide +kernel | exact flat_strs)) | ((with_reducible refine' r_niT ?hs ?hf ?ha ?_); (case hs => first | assumption | exact SqT.of (by tb_rel)); (case hf => rfl); (case ha => first | rfl | decide +kernel | exact flat_strs)))))
local macro_rules | `(tactic| tb_start) => `(tactic| with_reducible refine k_int ?_)
local macro_rules | `(tactic| tb_start) => `(tactic| ((with_reducible refine' And.intro (ty_lst ?ht) ?_); (case ht => tb_rel)))
local macro_rules | `(tactic| tb_start) => `(tactic| ((with_reducible refine' s_aug ?h1 ?_); (case h1 => exact rfl)))
local macro_rules | `(tactic| tb_start) => `(tactic| with_reducible refine r_ip ?_)
local macro_rules | `(tactic| tb_start) => `(tactic| with_reducible refine r_gsub ?_)
local macro_rules | `(tactic| tb_rel) => `(tactic| first | assumption | exact upd_same | ((with_reducible refine look_old ?hl ?hn); (case hn => assumption); (case hl => tb_rel)) | ((with_reducible refine' look_n ?h1 ?nn); (case nn => first | assumption | exact Ne.symm (by assumption)); (case h1 => tb_rel)) | ((with_reducible refine' look_t ?h1 ?h2); (case h2 => tb_rel); (case h1 => tb_rel)) | ((with_reducible refine' look_td ?h1 ?h2); (case h2 => tb_rel); (case h1 => tb_rel)) | ((with_reducible refine' look_ld ?h1 ?h2); (case h2 => tb_rel); (case h1 => tb_rel)) | ((refine Gr.tup (by assumption) _ _ ?hl); (case hl => tb_rel)))
local macro_rules | `(tactic| tb_start) => `(tactic| ((with_reducible refine' r_I ?hc ?_); (case hc => first | exact (show (_ : Int) ≠ 0 by decide) | exact ⟨by decide, by decide⟩ | exact Or.inr ⟨by decide, by decide⟩ | exact ⟨by decide, by decide, by decide⟩)))
local macro_rules | `(tactic| tb_start) => `(tactic| with_reducible refine (Or.inl ⟨_, rfl, ?_⟩ : (∃ j, [V.int _] = [V.int j] ∧ _) ∨ _))
def Items (H : Hp) (xs : List V) : Prop := ∀ x ∈ xs, ItemV H x
theorem Items.gr {x : Addr → Prop} {H H' : Hp} {xs : List V} (g : Gr x H H') (h : Items H xs) : Items H' xs := fun y hy => (h y hy).gr g
theorem Items.app {H : Hp} {xs ys : List V} (h : Items H xs) (k : Items H ys) : Items H (xs ++ ys) := fun y hy => (List.mem_append.mp hy).elim (h y) (k y)
theorem Items.one {H : Hp} {a : Addr} {h : Str} {r : List V} (e : H a = some (.tup (.str h :: r))) (o : RowOk h r) : Items H [.ref a] := fun y hy => by
  rw [List.mem_singleton] at hy
  exact .inr ⟨a, h, r, hy, e, o⟩
theorem row_int {h : Str} {k : Int} : RowOk h [.int k] := ⟨by simp, fun v hv => by rw [List.mem_singleton] at hv; rw [hv]; trivial, fun _ s hs => by rw [List.mem_singleton] at hs; cases hs⟩
theorem row_0 {h : Str} : RowOk h [] := ⟨by simp, (fun v hv => nomatch hv), fun _ s hs => nomatch hs⟩
theorem row_push {v : V} (f : FlS v) : RowOk "push" [v] := ⟨by simp, fun u hu => by rw [List.mem_singleton] at hu; rw [hu]; exact f, fun e => absurd e (by decide +kernel)⟩
theorem row_word {s : Str} (f : s ∈ WRD) : RowOk "word" [.str s] := ⟨by simp, fun u hu => by rw [List.mem_singleton] at hu; rw [hu]; exact Nat.le_trans (WRD_len f) (by decide), fun _ t ht => by rw [List.mem_singleton] at ht; cases ht; exact f⟩
theorem r_cat {H : Hp} {l m : Addr} {xs ys : List V} {Q : VK} (h1 : H l = some (.lst xs)) (h2 : H m = some (.lst ys)) (z : xs.length + ys.length ≤ 100000) (q : ∀ n, H n = none → Q (.ref n) (upd H n (.lst (xs ++ ys)))) : rCat (.ref l) (.ref m) H Q := ⟨l, m, xs, ys, rfl, rfl, h1, h2, sz10 z, q⟩
section
variable {P : Program} {w : World} {K : PySem.W.Frag} {mg : Str → Option Value} {base : Heap} {CX : CXT}
/-! ### _law_at -/
abbrev nm_law_at : List Str := ["_law_schema_here", "_law_name", "_law_k"]
theorem sc_law_at : FnScope nm_law_at ["_law_schema_here", "_law_name"] (defScope (topS 54)) := ⟨rfl, rfl, rfl, by decide +kernel, rfl, by decide +kernel, by decide +kernel⟩
-- slots: 0:_law_schema_here 1:_law_name 2:_law_k
def spAt : Sp := fun vs H Q _ => ∃ (sv : V) (nm : Str) (sch : Sch), vs = [sv, .str nm] ∧ SchV H sv sch ∧ nm ∈ namesOf sch ∧ ∀ H' i, Gr no H H' → Q (.int i) H'
theorem c_law_at (D : DefAt K mg "_law_at" 54 ["_law_schema_here", "_law_name"]) (B : Blt mg) : Cal P w K mg base CX0 1 "_law_at" ["_law_schema_here", "_law_name"] spAt := by
  refine mk0 D sc_law_at (fun vs H Q E h => by obtain ⟨_, _, _, rfl, _⟩ := h; rfl) ?_
  rintro X Q vs H E ⟨f, cdv, A, outer, s, H0, rfl⟩ hr ⟨sv, nm, sch, rfl, ⟨sa, fxs, rfl, hsa, hfl, hkd, _, hs8⟩, hnm, q⟩
  refine ⟨_, (pss_one (ps_ret (pe_ix ix_list (pe_lc (own := [("_law_k", 2)]) (g := gName 2) rfl sc_law_at.nd (pi_range1 rfl B.range_ (pa_cons (pe_callB call_len_seq rfl B.len_ PySem.boot_len (pa_cons (pv 0) pa_nil)) pa_nil)) (blkOk_by (own := [("_law_k", 2)]) (N := nm_law_at) (sc := defScope (topS 54)) (by decide +kernel)) (fun _ _ _ _ _ => (pg_name (i := 2) sc_law_at.nd rfl (Or.inl rfl))) (fun _ _ _ _ _ => (pts_one (pt_cmpR op_eq (pe_ix ix_tupB (pe_ix ix_tupB (pv 0) (pv 2) (fun _ _ => rfl)) pe_int (fun _ _ => rfl)) (pv 1) (nomark _)))) (fun _ _ _ _ _ => (pv 2))) pe_int (fun _ _ => rfl)))), ?_⟩
  walk_at "K"
  have lf := hfl.length
  walk_at "go2"
  refine r_lc (i_rng ?_)
  walk_at "go2"
  refine ⟨sa, fxs, rfl, .inr (SqT.of hsa), ?_⟩
  refine ⟨_, rfl, by omega, by omega, ?_⟩
  rw [Int.toNat_natCast]
  intro D hD
  refine lc_range (fun j H' => Gr no H H' ∧ ∃ ns : List Int, H' D = some (.lst (ns.map V.int)) ∧ ns.length ≤ j ∧ ((∃ m f, m < j ∧ sch[m]? = some f ∧ f.1 = nm) → ns ≠ [])) ⟨Gr.new hD, [], upd_same, Nat.le_refl _, fun ⟨m, f, h, _⟩ => absurd h (Nat.not_lt_zero _)⟩ ?_ ?_
  · rintro j H' hj ⟨g, ns, hns, hl, hne⟩
    refine ⟨rfl, ?_⟩
    have hx : fxs[j]? = some fxs[j] := List.getElem?_eq_getElem hj
    obtain ⟨fld, hfld, fa, kv, efa, hfa, hkv⟩ := Paired.getL hfl hx
    rw [efa] at hx
    have hfa' := g.tup _ _ hfa
    walk_at "go2"
    refine r_ixT (g.tup _ _ hsa) (at_n hx) ?_
    walk_at "go2"
    refine if_s (fun c1 => ?_) (fun c1 => ?_)
    · walk_at "go2"
      exact ⟨_, hns, sz10 (by rw [List.length_map]; omega), Gr.own g hD, ns ++ [0 + (j : Int)], by rw [upd_same, List.map_append]; rfl, by rw [List.length_append]; simp; omega, fun _ e => by simp at e⟩
    · refine ⟨g, ns, hns, by omega, fun ⟨m, f, h1, h2, h3⟩ => ?_⟩
      rcases Nat.lt_or_ge m j with z | z
      · exact hne ⟨m, f, z, h2, h3⟩
      · have : m = j := by omega
        rw [this, hfld] at h2
        cases h2
        exact absurd h3 c1
  · rintro H' ⟨g, ns, hns, hl, hne⟩
    obtain ⟨f, hf, e⟩ := List.mem_map.mp hnm
    obtain ⟨m, hm, e2⟩ := List.getElem_of_mem hf
    have hne' := hne ⟨m, f, by omega, by rw [← e2]; exact List.getElem?_eq_getElem hm, e⟩
    cases ns with
    | nil => exact absurd rfl hne'
    | cons z zs =>
      walk_at "go2"
      refine r_ixL hns at0 ?_
      exact q _ _ g
/-! ### _law_code -/
abbrev nm_law_code : List Str := ["_law_schema_here", "_law_e", "_law_head", "_law_rows", "_law_part"]
theorem sc_law_code : FnScope nm_law_code ["_law_schema_here", "_law_e"] (defScope (topS 55)) := ⟨rfl, rfl, rfl, by decide +kernel, rfl, by decide +kernel, by decide +kernel⟩
-- slots: 0:_law_schema_here 1:_law_e 2:_law_head 3:_law_rows 4:_law_part
def codeB : Nat → Nat
  | 0 => 0
  | n + 1 => 3 * codeB n + 1
def spCode (n : Nat) : Sp := fun vs H Q _ => ∃ (sv v : V) (sch : Sch), vs = [sv, v] ∧ SchV H sv sch ∧ ExV (namesOf sch) H n v ∧ n ≤ 7 ∧ ∀ H' p rows, Gr no H H' → H' p = some (.lst rows) → Items H' rows → rows.length ≤ codeB n → Q (.ref p) H'
theorem codeB_le : ∀ {n : Nat}, n ≤ 7 → codeB n ≤ 1093 := fun {n} h => by
  have : n = 0 ∨ n = 1 ∨ n = 2 ∨ n = 3 ∨ n = 4 ∨ n = 5 ∨ n = 6 ∨ n = 7 := by omega
  rcases this with rfl | rfl | rfl | rfl | rfl | rfl | rfl | rfl <;> decide
theorem node_no {hd : Str} (h : hd ∈ NODES) : inV (.str hd) [.str "int", .str "flag", .str "text"] = false ∧ inV (.str hd) [.str "div", .str "mod", .str "cut"] = false ∧ ¬ hd = "word" ∧ ¬ hd = "field" := by
  have k : NODES.all (fun s => !inV (.str s) [.str "int", .str "flag", .str "text"] && !inV (.str s) [.str "div", .str "mod", .str "cut"] && !decide (s = "word") && !decide (s = "field")) = true := by decide +kernel
  have := List.all_eq_true.mp k hd h
  simp only [Bool.and_eq_true, Bool.not_eq_true', decide_eq_false_iff_not] at this
  exact ⟨this.1.1.1, this.1.1.2, this.1.2, this.2⟩
set_option maxHeartbeats 16000000 in
theorem c_code (D : DefAt K mg "_law_code" 55 ["_law_schema_here", "_law_e"]) (B : Blt mg) (c_law_at : Cal P w K mg base CX0 1 "_law_at" ["_law_schema_here", "_law_name"] spAt) : ∀ n : Nat, Cal P w K mg base CX0 (n + 2) "_law_code" ["_law_schema_here", "_law_e"] (spCode n)
  | 0 => (cal_no D).imp fun vs H Q E h => by obtain ⟨_, _, _, _, _, h, _⟩ := h; exact h.elim
  | n + 1 => by
    have c_law_code := c_code D B c_law_at n
    refine mk0 D sc_law_code (fun vs H Q E h => by obtain ⟨_, _, _, rfl, _⟩ := h; rfl) ?_
    rintro X Q vs H E ⟨f, cdv, A, outer, s, H0, rfl⟩ hr ⟨sv, v, sch, rfl, hsch, hv, hn7, q⟩
    refine ⟨_, (pss_cons (ps_set (i := 2) sc_law_code.nd rfl (Or.inl rfl) (pe_ix ix_tup (pv 1) pe_int (fun _ _ => rfl)))
      (pss_cons (ps_if (pt_cmpR op_in_seq (pv 2) (pe_tup (pa_cons pe_str (pa_cons pe_str (pa_cons pe_str pa_nil)))) (by rfl)) (pss_one (ps_ret (pe_lst (pa_cons (pe_tup (pa_cons pe_str (pa_cons (pe_ix ix_tup (pv 1) pe_int (fun _ _ => rfl)) pa_nil))) pa_nil)))) pss_nil)
      (pss_cons (ps_if (pt_cmpR op_eq (pv 2) pe_str (nomark _)) (pss_one (ps_ret (pe_lst (pa_cons (pe_tup (pa_cons pe_str (pa_cons (pe_ix ix_tup (pv 1) pe_int (fun _ _ => rfl)) pa_nil))) pa_nil)))) pss_nil)
      (pss_cons (ps_if (pt_cmpR op_eq (pv 2) pe_str (nomark _)) (pss_one (ps_ret (pe_lst (pa_cons (pe_tup (pa_cons pe_str (pa_cons (pc0 c_law_at hr (by omega) (pa_cons (pv 0) (pa_cons (pe_ix ix_tup (pv 1) pe_int (fun _ _ => rfl)) pa_nil))) pa_nil))) pa_nil)))) pss_nil)
      (pss_cons (ps_if (pt_cmpR op_in_seq (pv 2) (pe_tup (pa_cons pe_str (pa_cons pe_str (pa_cons pe_str pa_nil)))) (by rfl)) (pss_one (ps_ret (pe_op op_cat (pc0 c_law_code hr (by omega) (pa_cons (pv 0) (pa_cons (pe_ix ix_tup (pv 1) pe_int (fun _ _ => rfl)) pa_nil))) (pe_lst (pa_cons (pe_tup (pa_cons (pv 2) (pa_cons (pe_ix ix_tup (pv 1) pe_int (fun _ _ => rfl)) pa_nil))) pa_nil))))) pss_nil)
      (pss_cons (ps_set (i := 3) sc_law_code.nd rfl (Or.inl rfl) (pe_lst pa_nil))
      (pss_cons (ps_for PassesOwn.never rfl (pi_tup (pe_slice sl_tupA (pv 1) (po_some pe_int) po_none)) (pg_name (i := 4) sc_law_code.nd rfl (Or.inl rfl)) (pss_one (ps_set (i := 3) sc_law_code.nd rfl (Or.inl rfl) (pe_op op_cat (pv 3) (pc0 c_law_code hr (by omega) (pa_cons (pv 0) (pa_cons (pv 4) pa_nil)))))))
      (pss_one (ps_ret (pe_op op_cat (pv 3) (pe_lst (pa_cons (pe_tup (pa_cons (pv 2) pa_nil)) pa_nil)))))))))))), ?_⟩
    walk_at "K"
    have hB := codeB_le (n := n) (by omega)
    have one : ∀ {H2 : Hp} {p r : Addr} {h : Str} {x : V}, Gr no H H2 → H2 p = none → (upd H2 p (.tup [.str h, x])) r = none → RowOk h [x] → Q (.ref r) (upd (upd H2 p (.tup [.str h, x])) r (.lst [.ref p])) := fun g hp hr' ok =>
      q _ _ _ ((g.trans (Gr.new hp)).trans (Gr.new hr')) upd_same (Items.one (look_old upd_same hr') ok) (by show 1 ≤ 3 * codeB n + 1; omega)
    obtain ⟨a, rfl, ⟨hd, x, h1, h2⟩ | ⟨hd, y, k, h1, h2, h3⟩ | ⟨hd, es, h1, h2, h3, h4, h5⟩⟩ := hv
    · rcases h2 with ⟨rfl, s, rfl, hs⟩ | ⟨hh, hx⟩ | ⟨rfl, s, rfl, hs⟩
      · walk_at "go2"
        refine ⟨sv, s, sch, rfl, hsch.gr (x := no) (by walk_at "gr"), hs, fun H2 i g2 => ?_⟩
        walk_at "go2"
        rename_i p hp r hr'
        exact one (Gr.trans (by walk_at "gr") g2) hp hr' row_int
      · rcases hh with rfl | rfl | rfl
        · walk_at "go2"
          rename_i p hp r hr'
          exact one (by walk_at "gr") hp hr' (row_push hx)
        · walk_at "go2"
          rename_i p hp r hr'
          exact one (by walk_at "gr") hp hr' (row_push hx)
        · walk_at "go2"
          rename_i p hp r hr'
          exact one (by walk_at "gr") hp hr' (row_push hx)
      · walk_at "go2"
        rename_i p hp r hr'
        exact one (by walk_at "gr") hp hr' (row_word hs)
    · have fin : ∀ (hh : inV (.str hd) [.str "int", .str "flag", .str "text"] = false), True := fun _ => trivial
      rcases h2 with rfl | rfl | rfl
      · walk_at "go2"
        refine ⟨sv, y, sch, rfl, hsch.gr (x := no) (by walk_at "gr"), h3.gr (x := no) (by walk_at "gr"), by omega, fun H2 p2 rows2 g2 e2 i2 l2 => ?_⟩
        have ha2 : H2 a = some (.tup [.str "div", y, .int k]) := by tb_rel
        have G2 : Gr no H H2 := Gr.trans (by walk_at "gr") g2
        walk_at "go2"
        rename_i t1 ht1 l1 hl1
        have gg : Gr no H2 (upd (upd H2 t1 (.tup [.str "div", .int k])) l1 (.lst [.ref t1])) := (Gr.new ht1).trans (Gr.new hl1)
        refine r_cat (gg.lst e2 id) upd_same (by simp; omega) fun r hr' => ?_
        refine q _ _ _ ((G2.trans gg).trans (Gr.new hr')) upd_same (Items.gr (x := no) (Gr.new hr') ((i2.gr gg).app (Items.one (look_old upd_same hl1) row_int))) ?_
        show (rows2 ++ [V.ref t1]).length ≤ 3 * codeB n + 1
        rw [List.length_append]; simp; omega
      · walk_at "go2"
        refine ⟨sv, y, sch, rfl, hsch.gr (x := no) (by walk_at "gr"), h3.gr (x := no) (by walk_at "gr"), by omega, fun H2 p2 rows2 g2 e2 i2 l2 => ?_⟩
        have ha2 : H2 a = some (.tup [.str "mod", y, .int k]) := by tb_rel
        have G2 : Gr no H H2 := Gr.trans (by walk_at "gr") g2
        walk_at "go2"
        rename_i t1 ht1 l1 hl1
        have gg : Gr no H2 (upd (upd H2 t1 (.tup [.str "mod", .int k])) l1 (.lst [.ref t1])) := (Gr.new ht1).trans (Gr.new hl1)
        refine r_cat (gg.lst e2 id) upd_same (by simp; omega) fun r hr' => ?_
        refine q _ _ _ ((G2.trans gg).trans (Gr.new hr')) upd_same (Items.gr (x := no) (Gr.new hr') ((i2.gr gg).app (Items.one (look_old upd_same hl1) row_int))) ?_
        show (rows2 ++ [V.ref t1]).length ≤ 3 * codeB n + 1
        rw [List.length_append]; simp; omega
      · walk_at "go2"
        refine ⟨sv, y, sch, rfl, hsch.gr (x := no) (by walk_at "gr"), h3.gr (x := no) (by walk_at "gr"), by omega, fun H2 p2 rows2 g2 e2 i2 l2 => ?_⟩
        have ha2 : H2 a = some (.tup [.str "cut", y, .int k]) := by tb_rel
        have G2 : Gr no H H2 := Gr.trans (by walk_at "gr") g2
        walk_at "go2"
        rename_i t1 ht1 l1 hl1
        have gg : Gr no H2 (upd (upd H2 t1 (.tup [.str "cut", .int k])) l1 (.lst [.ref t1])) := (Gr.new ht1).trans (Gr.new hl1)
        refine r_cat (gg.lst e2 id) upd_same (by simp; omega) fun r hr' => ?_
        refine q _ _ _ ((G2.trans gg).trans (Gr.new hr')) upd_same (Items.gr (x := no) (Gr.new hr') ((i2.gr gg).app (Items.one (look_old upd_same hl1) row_int))) ?_
        show (rows2 ++ [V.ref t1]).length ≤ 3 * codeB n + 1
        rw [List.length_append]; simp; omega
    · obtain ⟨n1, n2, n3, n4⟩ := node_no h2
      walk_at "go2"
      refine if_f n1 ?_
      walk_at "go2"
      refine if_s (fun e => absurd e n3) (fun _ => ?_)
      walk_at "go2"
      refine if_s (fun e => absurd e n4) (fun _ => ?_)
      walk_at "go2"
      refine if_f n2 ?_
      walk_at "go2"
      refine s_for (i_tup ?_)
      walk_at "go2"
      refine r_slT1 (x := .str hd) (xs := es) (by tb_rel) fun pp hpp => ?_
      refine ⟨pp, rfl, ⟨_, SqT.of upd_same⟩, ?_⟩
      refine for_tup (K := K) (a := pp) (xs := es) (fun i σ H' => Gr no H H' ∧ H' pp = some (.tup es) ∧ ∃ L rows u, σ = [some sv, some (.ref a), some (.str hd), some (.ref L), u] ∧ H' L = some (.lst rows) ∧ Items H' rows ∧ rows.length ≤ i * codeB n)
        ⟨by walk_at "gr", upd_same, _, [], _, rfl, by tb_rel, (fun x hx => nomatch hx), Nat.zero_le _⟩ (fun i σ H' _ z => SqT.of z.2.1) ?_ ?_
      · rintro i y σ H' hy ⟨g, hp2, L, rows, u, rfl, hL, hit, hlen⟩
        have hi : i < es.length := (List.getElem?_eq_some_iff.mp hy).1
        have he := (h5 y (List.mem_of_getElem? hy)).gr g
        have hib : i * codeB n ≤ 2 * codeB n := Nat.mul_le_mul_right _ (by omega)
        walk_at "go2"
        refine ⟨sv, y, sch, rfl, hsch.gr g, he, by omega, fun H2 p2 rows2 g2 e2 i2 l2 => ?_⟩
        refine r_cat (g2.lst hL id) e2 (by omega) fun r hr' => ?_
        walk_at "go2"
        refine ⟨(g.trans g2).trans (Gr.new hr'), (Gr.new (x := no) hr').tup _ _ (g2.tup _ _ hp2), r, rows ++ rows2, _, rfl, upd_same, Items.gr (x := no) (Gr.new hr') ((hit.gr g2).app i2), ?_⟩
        rw [List.length_append, Nat.succ_mul]; omega
      · rintro σ H' ⟨g, hp2, L, rows, u, rfl, hL, hit, hlen⟩
        have hib : es.length * codeB n ≤ 3 * codeB n := Nat.mul_le_mul_right _ h4
        walk_at "go2"
        rename_i t1 ht1 l1 hl1
        have gg : Gr no H' (upd (upd H' t1 (.tup [.str hd])) l1 (.lst [.ref t1])) := (Gr.new ht1).trans (Gr.new hl1)
        refine r_cat (gg.lst hL id) upd_same (by simp; omega) fun r hr' => ?_
        refine q _ _ _ ((g.trans gg).trans (Gr.new hr')) upd_same (Items.gr (x := no) (Gr.new hr') ((hit.gr gg).app (Items.one (look_old upd_same hl1) row_0))) ?_
        show (rows ++ [V.ref t1]).length ≤ 3 * codeB n + 1
        rw [List.length_append]; simp; omega
end
end Snk
set_option Elab.async false
set_option linter.all false
set_option maxRecDepth 100000
set_option maxHeartbeats 4000000
namespace Snk
open PySem PySem.Spec PyProof.Rows L2 GxR GxT
local macro_rules | `(tactic| walk_at "K") => `(tactic| try simp only [ws_K, ws_P, ws_w, cx_K, cx_P, cx_w])
local macro_rules | `(tactic| walk_at "isi") => `(tactic| first
  | with_reducible refine r_isB (.base (.int _)) kk_int_int ?_ | with_reducible refine r_isB (.base (.int _)) kk_int_bool ?_ | with_reducible refine r_isB (.base (.int _)) kk_int_str ?_ | with_reducible refine r_isB (.base (.int _)) kk_int_tuple ?_ | with_reducible refine r_isB (.base (.bl _)) kk_bool_int ?_ | with_reducible refine r_isB (.base (.bl _)) kk_bool_bool ?_ | with_reducible refine r_isB (.base (.bl _)) kk_bool_str ?_ | with_reducible refine r_isB (.base (.bl _)) kk_bool_tuple ?_ | with_reducible refine r_isB (.base (.str _)) kk_str_int ?_ | with_reducible refine r_isB (.base (.str _)) kk_str_bool ?_ | with_reducible refine r_isB (.base (.str _)) kk_str_str ?_ | with_reducible refine r_isB (.base (.str _)) kk_str_tuple ?_ | with_reducible refine r_isB (.base .non) kk_NoneType_int ?_ | with_reducible refine r_isB (.base .non) kk_NoneType_bool ?_ | with_reducible refine r_isB (.base .non) kk_NoneType_str ?_ | with_reducible refine r_isB (.base .non) kk_NoneType_tuple ?_ | with_reducible refine r_isB (.base (.tup (by assumption))) kk_tuple_int ?_ | with_reducible refine r_isB (.base (.tup (by assumption))) kk_tuple_bool ?_ | with_reducible refine r_isB (.base (.tup (by assumption))) kk_tuple_str ?_ | with_reducible refine r_isB (.base (.tup (by assumption))) kk_tuple_tuple ?_)
local macro_rules | `(tactic| tb_rel) => `(tactic| first | assumption | exact upd_same | ((refine look_old ?hl ?hn); (case hn => assumption); (case hl => tb_rel)) | ((refine Gr.tup (by assumption) _ _ ?hl); (case hl => tb_rel)))
local macro_rules | `(tactic| tb_start) => `(tactic| first
  | ((with_reducible refine' r_var ?hvar ?_); (case hvar => exact rfl))
  | with_reducible refine r_c ?_ | with_reducible refine r_op ?_ | with_reducible refine r_un ?_ | with_reducible refine r_chain ?_ | with_reducible refine r_tup ?_ | with_reducible refine r_lst ?_ | with_reducible refine r_cons ?_ | with_reducible refine r_nil ?_ | with_reducible refine r_cb ?_ | with_reducible refine r_call ?_ | with_reducible refine r_bm ?_ | with_reducible refine r_bm0 ?_ | with_reducible refine r_sl ?_ | with_reducible refine r_test ?_ | with_reducible refine r_tb ?_ | with_reducible refine r_tand ?_ | with_reducible refine r_tor ?_ | with_reducible refine r_tnot ?_ | with_reducible refine r_andV ?_ | with_reducible refine r_orV ?_ | with_reducible refine r_notV ?_ | with_reducible refine r_ife ?_ | with_reducible refine s_seq ?_ | with_reducible refine s_nextM ?_ | with_reducible refine s_next ?_ | with_reducible refine s_ret ?_ | with_reducible refine s_if ?_ | with_reducible refine s_asg ?_ | with_reducible refine s_drop ?_ | with_reducible refine s_cont ?_ | with_reducible refine s_break ?_ | with_reducible refine g_name ?_ | with_reducible refine r_I0 ?_ | with_reducible refine r_U ?_ | with_reducible refine k_bl2 ?_ | with_reducible refine r_part ?_ | with_reducible refine r_nopart ?_ | with_reducible refine if_tt ?_ | with_reducible refine if_ff ?_ | with_reducible refine if_nf ?_ | with_reducible refine if_nt ?_
  | ((with_reducible refine' r_eq ?hsc ?_); (case hsc => exact rfl)) | ((with_reducible refine' r_ne ?hsc ?_); (case hsc => exact rfl)) | ((with_reducible refine isi_g ?_); walk_at "isi") | (first | ((with_reducible refine' r_ixT ?hix ?eix ?_); (case hix => tb_rel); (case eix => first | exact at0 | exact at1 | exact at2 | rfl))) | ((with_reducible refine' if_t ?hc ?_); (case hc => decide +kernel)) | ((with_reducible refine' if_f ?hc ?_); (case hc => decide +kernel)))
local macro_rules | `(tactic| walk_at "go") => `(tactic| repeat tb_start)
local macro_rules | `(tactic| walk_at "gr") => `(tactic| first | exact Gr.refl _ _ | assumption | ((refine Gr.trans ?ga (Gr.new ?gn)); (case gn => assumption); (case ga => walk_at "gr")) | ((refine' Gr.trans ?ga ?gb); (case gb => assumption); (case ga => walk_at "gr")))
local macro_rules | `(tactic| walk_at "go2") => `(tactic| repeat (first | tb_start | (((with_reducible refine' And.intro ?hz ?_); (case hz => (refine sz10 ?_; first | decide | (simp; done) | (simp; omega))); intro p hp)) | (first | ((with_reducible refine' r_inT ?hs ?hf ?ha ?_); (case hs => first | assumption | exact SqT.of (by tb_rel)); (case hf => rfl); (case ha => first | rfl | decide +kernel | exact flat_strs)) | ((with_reducible refine' r_niT ?hs ?hf ?ha ?_); (case hs => first | assumption | exact SqT.of (by tb_rel)); (case hf => rfl); (case ha => first | rfl | decide +kernel | exact flat_strs)))))
local macro_rules | `(tactic| tb_start) => `(tactic| with_reducible refine k_int ?_)
local macro_rules | `(tactic| tb_start) => `(tactic| ((with_reducible refine' And.intro (ty_lst ?ht) ?_); (case ht => tb_rel)))
local macro_rules | `(tactic| tb_start) => `(tactic| ((with_reducible refine' s_aug ?h1 ?_); (case h1 => exact rfl)))
local macro_rules | `(tactic| tb_start) => `(tactic| with_reducible refine r_ip ?_)
local macro_rules | `(tactic| tb_start) => `(tactic| with_reducible refine r_gsub ?_)
local macro_rules | `(tactic| tb_rel) => `(tactic| first | assumption | exact upd_same | ((with_reducible refine look_old ?hl ?hn); (case hn => assumption); (case hl => tb_rel)) | ((with_reducible refine' look_n ?h1 ?nn); (case nn => first | assumption | exact Ne.symm (by assumption)); (case h1 => tb_rel)) | ((with_reducible refine' look_t ?h1 ?h2); (case h2 => tb_rel); (case h1 => tb_rel)) | ((with_reducible refine' look_td ?h1 ?h2); (case h2 => tb_rel); (case h1 => tb_rel)) | ((with_reducible refine' look_ld ?h1 ?h2); (case h2 => tb_rel); (case h1 => tb_rel)) | ((refine Gr.tup (by assumption) _ _ ?hl); (case hl => tb_rel)))
local macro_rules | `(tactic| tb_start) => `(tactic| ((with_reducible refine' r_I ?hc ?_); (case hc => first | exact (show (_ : Int) ≠ 0 by decide) | exact ⟨by decide, by decide⟩ | exact Or.inr ⟨by decide, by decide⟩ | exact ⟨by decide, by decide, by decide⟩)))
local macro_rules | `(tactic| tb_start) => `(tactic| with_reducible refine (Or.inl ⟨_, rfl, ?_⟩ : (∃ j, [V.int _] = [V.int j] ∧ _) ∨ _))
section
variable {P : Program} {w : World} {K : PySem.W.Frag} {mg : Str → Option Value} {base : Heap} {CX : CXT}
/-! ### _law_block -/
abbrev nm_law_block : List Str := ["_law_schema_here", "_law_program_here", "_law_rows", "_law_row", "_law_first", "_law_second"]
theorem sc_law_block : FnScope nm_law_block ["_law_schema_here", "_law_program_here"] (defScope (topS 56)) := ⟨rfl, rfl, rfl, by decide +kernel, rfl, by decide +kernel, by decide +kernel⟩
-- slots: 0:_law_schema_here 1:_law_program_here 2:_law_rows 3:_law_row 4:_law_first 5:_law_second
def blkB : Nat → Nat
  | 0 => 1094
  | _ => 7659
def spBlock (n : Nat) : Sp := fun vs H Q _ => ∃ (sv v : V) (sch : Sch), vs = [sv, v] ∧ SchV H sv sch ∧ BlkV (namesOf sch) H n v ∧ ∀ H' p rows, Gr no H H' → H' p = some (.lst rows) → Items H' rows → rows.length ≤ 3 * blkB n → Q (.ref p) H'
abbrev cBlock (P : Program) (w : World) (K : PySem.W.Frag) (mg : Str → Option Value) (base : Heap) (k : Nat) (sp : Sp) : Prop := Cal P w K mg base CX0 k "_law_block" ["_law_schema_here", "_law_program_here"] sp
set_option maxHeartbeats 16000000 in
theorem c_block0 (D : DefAt K mg "_law_block" 56 ["_law_schema_here", "_law_program_here"]) (B : Blt mg) (c_law_at : Cal P w K mg base CX0 1 "_law_at" ["_law_schema_here", "_law_name"] spAt) (c_law_code : Cal P w K mg base CX0 9 "_law_code" ["_law_schema_here", "_law_e"] (spCode 7)) : cBlock P w K mg base 10 (spBlock 0) := by
  have c_law_block : cBlock P w K mg base 0 (fun _ _ _ _ => False) := cal_no D
  refine mk0 D sc_law_block (fun vs H Q E h => by obtain ⟨_, _, _, rfl, _⟩ := h; rfl) ?_
  rintro X Q vs H E ⟨f, cdv, A, outer, s, H0, rfl⟩ hr ⟨sv, v, sch, rfl, hsch, ⟨a, xs, rfl, ha, hl, hx⟩, q⟩
  refine ⟨_, (pss_cons (ps_set (i := 2) sc_law_block.nd rfl (Or.inl rfl) (pe_lst pa_nil))
      (pss_cons (ps_for PassesOwn.never rfl (pi_tup (pv 1)) (pg_name (i := 3) sc_law_block.nd rfl (Or.inl rfl)) (pss_one (ps_if (pt_cmpR op_eq (pe_ix ix_tup (pv 3) pe_int (fun _ _ => rfl)) pe_str (nomark _)) (pss_one (ps_set (i := 2) sc_law_block.nd rfl (Or.inl rfl) (pe_op op_cat (pe_op op_cat (pv 2) (pc0 c_law_code hr (by omega) (pa_cons (pv 0) (pa_cons (pe_ix ix_tup (pv 3) pe_int (fun _ _ => rfl)) pa_nil)))) (pe_lst (pa_cons (pe_tup (pa_cons pe_str (pa_cons (pc0 c_law_at hr (by omega) (pa_cons (pv 0) (pa_cons (pe_ix ix_tup (pv 3) pe_int (fun _ _ => rfl)) pa_nil))) pa_nil))) pa_nil))))) (pss_one (ps_if (pt_cmpR op_eq (pe_ix ix_tup (pv 3) pe_int (fun _ _ => rfl)) pe_str (nomark _)) (pss_cons (ps_set (i := 4) sc_law_block.nd rfl (Or.inl rfl) (pc0 c_law_block hr (by omega) (pa_cons (pv 0) (pa_cons (pe_ix ix_tup (pv 3) pe_int (fun _ _ => rfl)) pa_nil))))
      (pss_cons (ps_set (i := 5) sc_law_block.nd rfl (Or.inl rfl) (pc0 c_law_block hr (by omega) (pa_cons (pv 0) (pa_cons (pe_ix ix_tup (pv 3) pe_int (fun _ _ => rfl)) pa_nil))))
      (pss_one (ps_set (i := 2) sc_law_block.nd rfl (Or.inl rfl) (pe_op op_cat (pe_op op_cat (pe_op op_cat (pe_op op_cat (pe_op op_cat (pv 2) (pc0 c_law_code hr (by omega) (pa_cons (pv 0) (pa_cons (pe_ix ix_tup (pv 3) pe_int (fun _ _ => rfl)) pa_nil)))) (pe_lst (pa_cons (pe_tup (pa_cons pe_str (pa_cons (pe_op op_add (pe_callB call_len_seq rfl B.len_ PySem.boot_len (pa_cons (pv 4) pa_nil)) pe_int) pa_nil))) pa_nil))) (pv 4)) (pe_lst (pa_cons (pe_tup (pa_cons pe_str (pa_cons (pe_callB call_len_seq rfl B.len_ PySem.boot_len (pa_cons (pv 5) pa_nil)) pa_nil))) pa_nil))) (pv 5)))))) pss_nil)))))
      (pss_one (ps_ret (pv 2))))), ?_⟩
  walk_at "K"
  walk_at "go2"
  rename_i L0 hL0
  refine s_for (i_tup ?_)
  walk_at "go2"
  refine ⟨a, rfl, ⟨_, SqT.of (by tb_rel)⟩, ?_⟩
  have B0 : blkB 0 = 1094 := rfl
  have cB : codeB 7 = 1093 := by decide
  refine for_tup (K := K) (a := a) (xs := xs) (fun i σ H' => Gr no H H' ∧ ∃ L rows u3 u4 u5, σ = [some sv, some (.ref a), some (.ref L), u3, u4, u5] ∧ H' L = some (.lst rows) ∧ Items H' rows ∧ rows.length ≤ i * blkB 0) ⟨Gr.new hL0, L0, [], _, _, _, rfl, upd_same, (fun x hx => nomatch hx), Nat.zero_le _⟩ (fun i σ H' _ z => SqT.of (z.1.tup _ _ ha)) ?_ ?_
  · rintro i y σ H' hy ⟨g, L, rows, u3, u4, u5, rfl, hL, hit, hlen⟩
    have hi : i < xs.length := (List.getElem?_eq_some_iff.mp hy).1
    have hst := (hx y (List.mem_of_getElem? hy)).gr g
    have hib : i * blkB 0 ≤ 2 * 1094 := Nat.mul_le_mul_right (blkB 0) (by omega)
    obtain ⟨b, rfl, hb | ⟨sn, e, hb, hsn, he⟩⟩ := hst
    · walk_at "go2"
      exact ⟨g, L, rows, _, _, _, rfl, hL, hit, by rw [Nat.succ_mul]; omega⟩
    · walk_at "go2"
      refine ⟨sv, e, sch, rfl, hsch.gr g, he, by omega, fun H2 p2 rows2 g2 e2 i2 l2 => ?_⟩
      have hb2 := g2.tup _ _ hb
      refine r_cat (g2.lst hL id) e2 (by omega) fun r1 hr1 => ?_
      walk_at "go2"
      refine ⟨sv, sn, sch, rfl, (hsch.gr (g.trans g2)).gr (x := no) (Gr.new hr1), hsn, fun H3 k g3 => ?_⟩
      walk_at "go2"
      rename_i t1 ht1 l1 hl1
      have gg : Gr no H3 (upd (upd H3 t1 (.tup [.str "store", .int k])) l1 (.lst [.ref t1])) := (Gr.new ht1).trans (Gr.new hl1)
      have g4 : Gr no H2 (upd (upd H3 t1 (.tup [.str "store", .int k])) l1 (.lst [.ref t1])) := ((Gr.new hr1).trans g3).trans gg
      have hr4 : (upd (upd H3 t1 (.tup [.str "store", .int k])) l1 (.lst [.ref t1])) r1 = some (.lst (rows ++ rows2)) := (g3.trans gg).lst upd_same id
      refine r_cat hr4 upd_same (by simp; omega) fun r hr' => ?_
      walk_at "go2"
      refine ⟨(g.trans (g2.trans g4)).trans (Gr.new hr'), r, (rows ++ rows2) ++ [.ref t1], _, _, _, rfl, upd_same, Items.gr (x := no) (Gr.new hr') ((((hit.gr g2).app i2).gr g4).app (Items.one (look_old upd_same hl1) row_int)), ?_⟩
      rw [List.length_append, List.length_append, Nat.succ_mul]; simp; omega
  · rintro σ H' ⟨g, L, rows, u3, u4, u5, rfl, hL, hit, hlen⟩
    have hib : xs.length * blkB 0 ≤ 3 * blkB 0 := Nat.mul_le_mul_right _ hl
    walk_at "go2"
    exact q _ _ rows g hL hit (by omega)
set_option maxHeartbeats 16000000 in
theorem c_block1 (D : DefAt K mg "_law_block" 56 ["_law_schema_here", "_law_program_here"]) (B : Blt mg) (c_law_at : Cal P w K mg base CX0 1 "_law_at" ["_law_schema_here", "_law_name"] spAt) (c_law_code : Cal P w K mg base CX0 9 "_law_code" ["_law_schema_here", "_law_e"] (spCode 7)) (c_law_block : cBlock P w K mg base 10 (spBlock 0)) : cBlock P w K mg base 11 (spBlock 1) := by
  refine mk0 D sc_law_block (fun vs H Q E h => by obtain ⟨_, _, _, rfl, _⟩ := h; rfl) ?_
  rintro X Q vs H E ⟨f, cdv, A, outer, s, H0, rfl⟩ hr ⟨sv, v, sch, rfl, hsch, ⟨a, xs, rfl, ha, hl, hx⟩, q⟩
  refine ⟨_, (pss_cons (ps_set (i := 2) sc_law_block.nd rfl (Or.inl rfl) (pe_lst pa_nil))
      (pss_cons (ps_for PassesOwn.never rfl (pi_tup (pv 1)) (pg_name (i := 3) sc_law_block.nd rfl (Or.inl rfl)) (pss_one (ps_if (pt_cmpR op_eq (pe_ix ix_tup (pv 3) pe_int (fun _ _ => rfl)) pe_str (nomark _)) (pss_one (ps_set (i := 2) sc_law_block.nd rfl (Or.inl rfl) (pe_op op_cat (pe_op op_cat (pv 2) (pc0 c_law_code hr (by omega) (pa_cons (pv 0) (pa_cons (pe_ix ix_tup (pv 3) pe_int (fun _ _ => rfl)) pa_nil)))) (pe_lst (pa_cons (pe_tup (pa_cons pe_str (pa_cons (pc0 c_law_at hr (by omega) (pa_cons (pv 0) (pa_cons (pe_ix ix_tup (pv 3) pe_int (fun _ _ => rfl)) pa_nil))) pa_nil))) pa_nil))))) (pss_one (ps_if (pt_cmpR op_eq (pe_ix ix_tup (pv 3) pe_int (fun _ _ => rfl)) pe_str (nomark _)) (pss_cons (ps_set (i := 4) sc_law_block.nd rfl (Or.inl rfl) (pc0 c_law_block hr (by omega) (pa_cons (pv 0) (pa_cons (pe_ix ix_tup (pv 3) pe_int (fun _ _ => rfl)) pa_nil))))
      (pss_cons (ps_set (i := 5) sc_law_block.nd rfl (Or.inl rfl) (pc0 c_law_block hr (by omega) (pa_cons (pv 0) (pa_cons (pe_ix ix_tup (pv 3) pe_int (fun _ _ => rfl)) pa_nil))))
      (pss_one (ps_set (i := 2) sc_law_block.nd rfl (Or.inl rfl) (pe_op op_cat (pe_op op_cat (pe_op op_cat (pe_op op_cat (pe_op op_cat (pv 2) (pc0 c_law_code hr (by omega) (pa_cons (pv 0) (pa_cons (pe_ix ix_tup (pv 3) pe_int (fun _ _ => rfl)) pa_nil)))) (pe_lst (pa_cons (pe_tup (pa_cons pe_str (pa_cons (pe_op op_add (pe_callB call_len_seq rfl B.len_ PySem.boot_len (pa_cons (pv 4) pa_nil)) pe_int) pa_nil))) pa_nil))) (pv 4)) (pe_lst (pa_cons (pe_tup (pa_cons pe_str (pa_cons (pe_callB call_len_seq rfl B.len_ PySem.boot_len (pa_cons (pv 5) pa_nil)) pa_nil))) pa_nil))) (pv 5)))))) pss_nil)))))
      (pss_one (ps_ret (pv 2))))), ?_⟩
  walk_at "K"
  walk_at "go2"
  rename_i L0 hL0
  refine s_for (i_tup ?_)
  walk_at "go2"
  refine ⟨a, rfl, ⟨_, SqT.of (by tb_rel)⟩, ?_⟩
  have B0 : blkB 1 = 7659 := rfl
  have cB : codeB 7 = 1093 := by decide
  refine for_tup (K := K) (a := a) (xs := xs) (fun i σ H' => Gr no H H' ∧ ∃ L rows u3 u4 u5, σ = [some sv, some (.ref a), some (.ref L), u3, u4, u5] ∧ H' L = some (.lst rows) ∧ Items H' rows ∧ rows.length ≤ i * blkB 1) ⟨Gr.new hL0, L0, [], _, _, _, rfl, upd_same, (fun x hx => nomatch hx), Nat.zero_le _⟩ (fun i σ H' _ z => SqT.of (z.1.tup _ _ ha)) ?_ ?_
  · rintro i y σ H' hy ⟨g, L, rows, u3, u4, u5, rfl, hL, hit, hlen⟩
    have hi : i < xs.length := (List.getElem?_eq_some_iff.mp hy).1
    have hst := (hx y (List.mem_of_getElem? hy)).gr g
    have hib : i * blkB 1 ≤ 2 * 7659 := Nat.mul_le_mul_right (blkB 1) (by omega)
    obtain ⟨b, rfl, hb | ⟨sn, e, hb, hsn, he⟩ | ⟨c, b1, b2, xs1, ys1, hb, hc, hb1, hb2, hl1, hl2, hx1, hx2⟩⟩ := hst
    · walk_at "go2"
      exact ⟨g, L, rows, _, _, _, rfl, hL, hit, by rw [Nat.succ_mul]; omega⟩
    · walk_at "go2"
      refine ⟨sv, e, sch, rfl, hsch.gr g, he, by omega, fun H2 p2 rows2 g2 e2 i2 l2 => ?_⟩
      have hb2 := g2.tup _ _ hb
      refine r_cat (g2.lst hL id) e2 (by omega) fun r1 hr1 => ?_
      walk_at "go2"
      refine ⟨sv, sn, sch, rfl, (hsch.gr (g.trans g2)).gr (x := no) (Gr.new hr1), hsn, fun H3 k g3 => ?_⟩
      walk_at "go2"
      rename_i t1 ht1 l1 hl1
      have gg : Gr no H3 (upd (upd H3 t1 (.tup [.str "store", .int k])) l1 (.lst [.ref t1])) := (Gr.new ht1).trans (Gr.new hl1)
      have g4 : Gr no H2 (upd (upd H3 t1 (.tup [.str "store", .int k])) l1 (.lst [.ref t1])) := ((Gr.new hr1).trans g3).trans gg
      have hr4 : (upd (upd H3 t1 (.tup [.str "store", .int k])) l1 (.lst [.ref t1])) r1 = some (.lst (rows ++ rows2)) := (g3.trans gg).lst upd_same id
      refine r_cat hr4 upd_same (by simp; omega) fun r hr' => ?_
      walk_at "go2"
      refine ⟨(g.trans (g2.trans g4)).trans (Gr.new hr'), r, (rows ++ rows2) ++ [.ref t1], _, _, _, rfl, upd_same, Items.gr (x := no) (Gr.new hr') ((((hit.gr g2).app i2).gr g4).app (Items.one (look_old upd_same hl1) row_int)), ?_⟩
      rw [List.length_append, List.length_append, Nat.succ_mul]; simp; omega
    · have B00 : blkB 0 = 1094 := rfl
      walk_at "go2"
      refine ⟨sv, .ref b1, sch, rfl, hsch.gr g, ⟨b1, xs1, rfl, hb1, hl1, hx1⟩, fun H2 p1 rw1 g2 e1 i1 l1 => ?_⟩
      have hb2' := g2.tup _ _ hb
      walk_at "go2"
      refine ⟨sv, .ref b2, sch, rfl, (hsch.gr g).gr g2, BlkV.gr g2 ⟨b2, ys1, rfl, hb2, hl2, hx2⟩, fun H3 p2 rw2 g3 e2 i2 l2 => ?_⟩
      have hb3 := g3.tup _ _ hb2'
      walk_at "go2"
      refine ⟨sv, c, sch, rfl, ((hsch.gr g).gr g2).gr g3, (hc.gr g2).gr g3, by omega, fun H4 p4 rw4 g4 e4 i4 l4 => ?_⟩
      have g24 : Gr no H2 H4 := g3.trans g4
      have G4 : Gr no H' H4 := g2.trans g24
      have f1 := g24.lst e1 id
      have f2 := g4.lst e2 id
      refine r_cat (G4.lst hL id) e4 (by omega) fun r1 hr1 => ?_
      walk_at "go2"
      have f1' := (Gr.new (x := no) (o := .lst (rows ++ rw4)) hr1).lst f1 id
      refine ⟨p1, _, rfl, .inl (SqL.of f1'), ?_⟩
      walk_at "go2"
      rename_i t1 ht1 n1 hn1
      refine r_cat (xs := rows ++ rw4) (by tb_rel) upd_same (by simp; omega) fun r2 hr2 => ?_
      walk_at "go2"
      refine r_cat (xs := (rows ++ rw4) ++ [.ref t1]) (ys := rw1) upd_same (by tb_rel) (by simp; omega) fun r3 hr3 => ?_
      walk_at "go2"
      refine ⟨p2, rw2, rfl, .inl (SqL.of (by tb_rel)), ?_⟩
      walk_at "go2"
      rename_i t2 ht2 n2 hn2
      refine r_cat (xs := ((rows ++ rw4) ++ [.ref t1]) ++ rw1) (by tb_rel) upd_same (by simp; omega) fun r4 hr4 => ?_
      walk_at "go2"
      refine r_cat (xs := (((rows ++ rw4) ++ [.ref t1]) ++ rw1) ++ [.ref t2]) (ys := rw2) upd_same (by tb_rel) (by simp; omega) fun r5 hr5 => ?_
      walk_at "go2"
      have k1 : Gr no H4 _ := Gr.new (o := .lst (rows ++ rw4)) hr1
      have k2 := (k1.trans (Gr.new (o := .tup [.str "unless", .int ((rw1.length : Int) + 1)]) ht1)).trans (Gr.new (o := .lst [.ref t1]) hn1)
      have k3 := (k2.trans (Gr.new (o := .lst ((rows ++ rw4) ++ [.ref t1])) hr2)).trans (Gr.new (o := .lst (((rows ++ rw4) ++ [.ref t1]) ++ rw1)) hr3)
      have k4 := (k3.trans (Gr.new (o := .tup [.str "jump", .int (rw2.length : Int)]) ht2)).trans (Gr.new (o := .lst [.ref t2]) hn2)
      have k5 := (k4.trans (Gr.new (o := .lst ((((rows ++ rw4) ++ [.ref t1]) ++ rw1) ++ [.ref t2])) hr4)).trans (Gr.new (o := .lst (((((rows ++ rw4) ++ [.ref t1]) ++ rw1) ++ [.ref t2]) ++ rw2)) hr5)
      refine ⟨g.trans (G4.trans k5), r5, _, _, _, _, rfl, upd_same, ?_, ?_⟩
      · exact ((((((hit.gr G4).app i4).gr k5).app (Items.one (by tb_rel) row_int)).app ((i1.gr g24).gr k5)).app (Items.one (by tb_rel) row_int)).app ((i2.gr g4).gr k5)
      · rw [Nat.succ_mul]; simp only [List.length_append, List.length_singleton]; omega
  · rintro σ H' ⟨g, L, rows, u3, u4, u5, rfl, hL, hit, hlen⟩
    have hib : xs.length * blkB 1 ≤ 3 * blkB 1 := Nat.mul_le_mul_right _ hl
    walk_at "go2"
    exact q _ _ rows g hL hit (by omega)
end
end Snk
set_option Elab.async false
set_option linter.all false
set_option maxRecDepth 100000
set_option maxHeartbeats 4000000
namespace Snk
open PySem PySem.Spec PyProof.Rows L2 GxR GxT
local macro_rules | `(tactic| walk_at "K") => `(tactic| try simp only [ws_K, ws_P, ws_w, cx_K, cx_P, cx_w])
local macro_rules | `(tactic| walk_at "isi") => `(tactic| first
  | with_reducible refine r_isB (.base (.int _)) kk_int_int ?_ | with_reducible refine r_isB (.base (.int _)) kk_int_bool ?_ | with_reducible refine r_isB (.base (.int _)) kk_int_str ?_ | with_reducible refine r_isB (.base (.int _)) kk_int_tuple ?_ | with_reducible refine r_isB (.base (.bl _)) kk_bool_int ?_ | with_reducible refine r_isB (.base (.bl _)) kk_bool_bool ?_ | with_reducible refine r_isB (.base (.bl _)) kk_bool_str ?_ | with_reducible refine r_isB (.base (.bl _)) kk_bool_tuple ?_ | with_reducible refine r_isB (.base (.str _)) kk_str_int ?_ | with_reducible refine r_isB (.base (.str _)) kk_str_bool ?_ | with_reducible refine r_isB (.base (.str _)) kk_str_str ?_ | with_reducible refine r_isB (.base (.str _)) kk_str_tuple ?_ | with_reducible refine r_isB (.base .non) kk_NoneType_int ?_ | with_reducible refine r_isB (.base .non) kk_NoneType_bool ?_ | with_reducible refine r_isB (.base .non) kk_NoneType_str ?_ | with_reducible refine r_isB (.base .non) kk_NoneType_tuple ?_ | with_reducible refine r_isB (.base (.tup (by assumption))) kk_tuple_int ?_ | with_reducible refine r_isB (.base (.tup (by assumption))) kk_tuple_bool ?_ | with_reducible refine r_isB (.base (.tup (by assumption))) kk_tuple_str ?_ | with_reducible refine r_isB (.base (.tup (by assumption))) kk_tuple_tuple ?_)
local macro_rules | `(tactic| tb_rel) => `(tactic| first | assumption | exact upd_same | ((refine look_old ?hl ?hn); (case hn => assumption); (case hl => tb_rel)) | ((refine Gr.tup (by assumption) _ _ ?hl); (case hl => tb_rel)))
local macro_rules | `(tactic| tb_start) => `(tactic| first
  | ((with_reducible refine' r_var ?hvar ?_); (case hvar => exact rfl))
  | with_reducible refine r_c ?_ | with_reducible refine r_op ?_ | with_reducible refine r_un ?_ | with_reducible refine r_chain ?_ | with_reducible refine r_tup ?_ | with_reducible refine r_lst ?_ | with_reducible refine r_cons ?_ | with_reducible refine r_nil ?_ | with_reducible refine r_cb ?_ | with_reducible refine r_call ?_ | with_reducible refine r_bm ?_ | with_reducible refine r_bm0 ?_ | with_reducible refine r_sl ?_ | with_reducible refine r_test ?_ | with_reducible refine r_tb ?_ | with_reducible refine r_tand ?_ | with_reducible refine r_tor ?_ | with_reducible refine r_tnot ?_ | with_reducible refine r_andV ?_ | with_reducible refine r_orV ?_ | with_reducible refine r_notV ?_ | with_reducible refine r_ife ?_ | with_reducible refine s_seq ?_ | with_reducible refine s_nextM ?_ | with_reducible refine s_next ?_ | with_reducible refine s_ret ?_ | with_reducible refine s_if ?_ | with_reducible refine s_asg ?_ | with_reducible refine s_drop ?_ | with_reducible refine s_cont ?_ | with_reducible refine s_break ?_ | with_reducible refine g_name ?_ | with_reducible refine r_I0 ?_ | with_reducible refine r_U ?_ | with_reducible refine k_bl2 ?_ | with_reducible refine r_part ?_ | with_reducible refine r_nopart ?_ | with_reducible refine if_tt ?_ | with_reducible refine if_ff ?_ | with_reducible refine if_nf ?_ | with_reducible refine if_nt ?_
  | ((with_reducible refine' r_eq ?hsc ?_); (case hsc => exact rfl)) | ((with_reducible refine' r_ne ?hsc ?_); (case hsc => exact rfl)) | ((with_reducible refine isi_g ?_); walk_at "isi") | (first | ((with_reducible refine' r_ixT ?hix ?eix ?_); (case hix => tb_rel); (case eix => first | exact at0 | exact at1 | exact at2 | rfl))) | ((with_reducible refine' if_t ?hc ?_); (case hc => decide +kernel)) | ((with_reducible refine' if_f ?hc ?_); (case hc => decide +kernel)))
local macro_rules | `(tactic| walk_at "go") => `(tactic| repeat tb_start)
local macro_rules | `(tactic| walk_at "gr") => `(tactic| first | exact Gr.refl _ _ | assumption | ((refine Gr.trans ?ga (Gr.new ?gn)); (case gn => assumption); (case ga => walk_at "gr")) | ((refine' Gr.trans ?ga ?gb); (case gb => assumption); (case ga => walk_at "gr")))
local macro_rules | `(tactic| walk_at "go2") => `(tactic| repeat (first | tb_start | (((with_reducible refine' And.intro ?hz ?_); (case hz => (refine sz10 ?_; first | decide | (simp; done) | (simp; omega))); intro p hp)) | (first | ((with_reducible refine' r_inT ?hs ?hf ?ha ?_); (case hs => first | assumption | exact SqT.of (by tb_rel)); (case hf => rfl); (case ha => first | rfl | decide +kernel | exact flat_strs)) | ((with_reducible refine' r_niT ?hs ?hf ?ha ?_); (case hs => first | assumption | exact SqT.of (by tb_rel)); (case hf => rfl); (case ha => first | rfl | decide +kernel | exact flat_strs)))))
local macro_rules | `(tactic| tb_start) => `(tactic| with_reducible refine k_int ?_)
local macro_rules | `(tactic| tb_start) => `(tactic| ((with_reducible refine' And.intro (ty_lst ?ht) ?_); (case ht => tb_rel)))
local macro_rules | `(tactic| tb_start) => `(tactic| ((with_reducible refine' s_aug ?h1 ?_); (case h1 => exact rfl)))
local macro_rules | `(tactic| tb_start) => `(tactic| with_reducible refine r_ip ?_)
local macro_rules | `(tactic| tb_start) => `(tactic| with_reducible refine r_gsub ?_)
local macro_rules | `(tactic| tb_rel) => `(tactic| first | assumption | exact upd_same | ((with_reducible refine look_old ?hl ?hn); (case hn => assumption); (case hl => tb_rel)) | ((with_reducible refine' look_n ?h1 ?nn); (case nn => first | assumption | exact Ne.symm (by assumption)); (case h1 => tb_rel)) | ((with_reducible refine' look_t ?h1 ?h2); (case h2 => tb_rel); (case h1 => tb_rel)) | ((with_reducible refine' look_td ?h1 ?h2); (case h2 => tb_rel); (case h1 => tb_rel)) | ((with_reducible refine' look_ld ?h1 ?h2); (case h2 => tb_rel); (case h1 => tb_rel)) | ((refine Gr.tup (by assumption) _ _ ?hl); (case hl => tb_rel)))
local macro_rules | `(tactic| tb_start) => `(tactic| ((with_reducible refine' r_I ?hc ?_); (case hc => first | exact (show (_ : Int) ≠ 0 by decide) | exact ⟨by decide, by decide⟩ | exact Or.inr ⟨by decide, by decide⟩ | exact ⟨by decide, by decide, by decide⟩)))
local macro_rules | `(tactic| tb_start) => `(tactic| with_reducible refine (Or.inl ⟨_, rfl, ?_⟩ : (∃ j, [V.int _] = [V.int j] ∧ _) ∨ _))
inductive Flat : V → Prop where
  | int {i : Int} : Flat (.int i)
  | bl {b : Bool} : Flat (.bl b)
  | str {s : Str} (h : s.length ≤ 1000) : Flat (.str s)
theorem Flat.of {b : Bd} {v : V} (ok : BdOk b) (h : Gam b v) : Flat v := by
  cases b with
  | int lo hi => obtain ⟨i, rfl, _⟩ := h; exact .int
  | flag => obtain ⟨i, rfl⟩ := h; exact .bl
  | word ws => obtain ⟨s, rfl, hs⟩ := h; exact .str (Nat.le_trans (WRD_len (ok.2 s hs)) (by decide))
  | text n =>
    obtain ⟨s, rfl, hs⟩ := h
    have := ok.2
    exact .str (by omega)
theorem flats_of : ∀ {bs : List Bd} {vs : List V}, AllOk bs → FitS bs vs → ∀ v ∈ vs, Flat v
  | _, _, _, .nil => fun v hv => nomatch hv
  | b :: bs, _, ok, .cons h t => fun v hv => by
    rcases List.mem_cons.mp hv with rfl | hv
    · exact Flat.of (ok b (by simp)) h
    · exact flats_of (fun x hx => ok x (List.mem_cons_of_mem _ hx)) t v hv
theorem Flat.b {v : V} (h : Flat v) : flatB v = true := by cases h <;> rfl
section
variable {X : Cx}
/-- !=, two tuples of the same flat values -/
def rNeF : R2 := fun x y H Q => ∃ p r qs, x = .ref p ∧ y = .ref r ∧ H p = some (.tup qs) ∧ H r = some (.tup qs) ∧ (∀ v ∈ qs, flatB v = true) ∧ Q (.bl false) H
theorem items_same {A : Around} {s : Shared} : ∀ {qs : List V} {us ws : List Value}, (∀ v ∈ qs, flatB v = true) → Vals qs us → Vals qs ws → ∀ j (h1 : j < us.length) (h2 : j < ws.length), SeqAt.EqAt A s us[j] ws[j] true
  | [], _, _, _, .nil, .nil, j, h1, _ => absurd h1 (Nat.not_lt_zero j)
  | q :: qs, _, _, hf, .cons a1 b1, .cons a2 b2, 0, _, _ => eqAt_same a1 a2 (hf q (by simp))
  | q :: qs, _, _, hf, .cons a1 b1, .cons a2 b2, j + 1, h1, h2 => items_same (fun v hv => hf v (List.mem_cons_of_mem _ hv)) b1 b2 j (Nat.lt_of_succ_lt_succ h1) (Nat.lt_of_succ_lt_succ h2)
theorem op_neF (hu : X.A.units < cLine) : OpR X (compareOp .NotEq) rNeF := by
  intro pins s σ H x y v u Q I rx ry h
  obtain ⟨p, r, qs, rfl, rfl, h1, h2, hf, q⟩ := h
  cases (show v = Value.ref p from rx)
  cases (show u = Value.ref r from ry)
  obtain ⟨us, r1, p1, _⟩ := I.tuple (SqT.of h1)
  obtain ⟨ws, r2, p2, _⟩ := I.tuple (SqT.of h2)
  have hsz : us.toArray.size = ws.toArray.size := by
    rw [List.size_toArray, List.size_toArray, ← r1.length, ← r2.length]
  refine SeqAt.RcNeAt.tuples (e := fun _ => true) p1 p2 hu (fun j h1 h2 => ?_) X.prog X.w X.xe _ ?_
  · have k := items_same (A := X.A.in1) (s := s) hf r1 r2 j (by simpa using h1) (by simpa using h2)
    simpa using k
  · rw [show ((List.range (min us.toArray.size ws.toArray.size)).all fun _ => true) = true from List.all_eq_true.mpr fun _ _ => rfl, hsz]
    simp only [BEq.rfl, Bool.and_true, Bool.not_true]
    exact ⟨.bl false, H, I, rfl, q⟩
end
section
variable {P : Program} {w : World} {K : PySem.W.Frag} {mg : Str → Option Value} {base : Heap} {CX : CXT}
/-! ### _law_exact -/
abbrev nm_law_exact : List Str := ["_law_actual", "_law_expected", "_law_k"]
theorem sc_law_exact : FnScope nm_law_exact ["_law_actual", "_law_expected"] (defScope (topS 58)) := ⟨rfl, rfl, rfl, by decide +kernel, rfl, by decide +kernel, by decide +kernel⟩
-- slots: 0:_law_actual 1:_law_expected 2:_law_k
def spExact : Sp := fun vs H Q _ => ∃ (p r : Addr) (qs : List V), vs = [.ref p, .ref r] ∧ H p = some (.tup qs) ∧ H r = some (.tup qs) ∧ (∀ v ∈ qs, Flat v) ∧ qs.length ≤ 1000 ∧ Q (.bl true) H
theorem c_law_exact (D : DefAt K mg "_law_exact" 58 ["_law_actual", "_law_expected"]) (B : Blt mg) : Cal P w K mg base CX0 1 "_law_exact" ["_law_actual", "_law_expected"] spExact := by
  refine mk0 D sc_law_exact (fun vs H Q E h => by obtain ⟨_, _, _, rfl, _⟩ := h; rfl) ?_
  rintro X Q vs H E ⟨f, cdv, A, outer, s, H0, rfl⟩ hr ⟨p, r, qs, rfl, hp, hr', hf, hl, q⟩
  refine ⟨_, (pss_cons (ps_if (PW.pt (pw_or (pt_not (pt_val (pe_callB call_isi rfl B.isinstance_ (by decide +kernel) (pa_cons (pv 0) (pa_cons (pe_bltn (v := .ty "tuple") rfl B.tuple_ (by decide +kernel) rfl) pa_nil))))) (pw_or1 (pt_cmpR (op_neF hr.units0) (pv 0) (pv 1) (nomark _))))) (pss_one (ps_ret pe_bl)) pss_nil)
      (pss_cons (ps_for PassesOwn.never rfl (pi_range1 rfl B.range_ (pa_cons (pe_callB call_len_seq rfl B.len_ PySem.boot_len (pa_cons (pv 1) pa_nil)) pa_nil)) (pg_name (i := 2) sc_law_exact.nd rfl (Or.inl rfl)) (pss_one (ps_if (pt_cmpR op_ne (pe_callB call_isi rfl B.isinstance_ (by decide +kernel) (pa_cons (pe_ix ix_tup (pv 0) (pv 2) (fun _ _ => rfl)) (pa_cons (pe_bltn (v := .ty "bool") rfl B.bool_ (by decide +kernel) rfl) pa_nil))) (pe_callB call_isi rfl B.isinstance_ (by decide +kernel) (pa_cons (pe_ix ix_tup (pv 1) (pv 2) (fun _ _ => rfl)) (pa_cons (pe_bltn (v := .ty "bool") rfl B.bool_ (by decide +kernel) rfl) pa_nil))) (nomark _)) (pss_one (ps_ret pe_bl)) pss_nil)))
      (pss_one (ps_ret pe_bl)))), ?_⟩
  walk_at "K"
  have hs : SqT K H p qs := SqT.of hp
  walk_at "go2"
  refine ⟨p, r, qs, rfl, rfl, hp, hr', fun v hv => (hf v hv).b, ?_⟩
  walk_at "go2"
  refine s_for (i_rng ?_)
  walk_at "go2"
  refine ⟨r, qs, rfl, .inr (SqT.of hr'), ?_⟩
  refine ⟨_, rfl, by omega, by omega, ?_⟩
  rw [Int.toNat_natCast]
  refine for_range (fun j σ H' => H' = H ∧ ∃ u, σ = [some (.ref p), some (.ref r), u]) ⟨rfl, _, rfl⟩ ?_ ?_
  · rintro j σ H' hj ⟨rfl, u, rfl⟩
    have hx : qs[j]? = some qs[j] := List.getElem?_eq_getElem hj
    have fx := hf _ (List.getElem_mem hj)
    generalize qs[j] = v at hx fx
    cases fx with
    | int =>
      walk_at "go2"
      refine r_ixT hp (at_n hx) ?_
      walk_at "go2"
      refine r_ixT hr' (at_n hx) ?_
      walk_at "go2"
      exact ⟨rfl, _, rfl⟩
    | bl =>
      walk_at "go2"
      refine r_ixT hp (at_n hx) ?_
      walk_at "go2"
      refine r_ixT hr' (at_n hx) ?_
      walk_at "go2"
      exact ⟨rfl, _, rfl⟩
    | str =>
      walk_at "go2"
      refine r_ixT hp (at_n hx) ?_
      walk_at "go2"
      refine r_ixT hr' (at_n hx) ?_
      walk_at "go2"
      exact ⟨rfl, _, rfl⟩
  · rintro σ H' ⟨rfl, u, rfl⟩
    walk_at "go2"
    exact q
/-! ### _law_valid -/
abbrev nm_law_valid : List Str := ["_law_schema_here", "_law_record_here", "_law_k", "_law_kind_here", "_law_value_here"]
theorem sc_law_valid : FnScope nm_law_valid ["_law_schema_here", "_law_record_here"] (defScope (topS 62)) := ⟨rfl, rfl, rfl, by decide +kernel, rfl, by decide +kernel, by decide +kernel⟩
-- slots: 0:_law_schema_here 1:_law_record_here 2:_law_k 3:_law_kind_here 4:_law_value_here
def spValid : Sp := fun vs H Q _ => ∃ (sv : V) (r : Addr) (sch : Sch) (rs : List V), vs = [sv, .ref r] ∧ SchV H sv sch ∧ H r = some (.tup rs) ∧ FitS (kinds sch) rs ∧ Q (.bl true) H
theorem c_law_valid (D : DefAt K mg "_law_valid" 62 ["_law_schema_here", "_law_record_here"]) (B : Blt mg) : Cal P w K mg base CX0 1 "_law_valid" ["_law_schema_here", "_law_record_here"] spValid := by
  refine mk0 D sc_law_valid (fun vs H Q E h => by obtain ⟨_, _, _, _, rfl, _⟩ := h; rfl) ?_
  rintro X Q vs H E ⟨f, cdv, A, outer, s, H0, rfl⟩ hr ⟨sv, r, sch, rs, rfl, ⟨sa, fxs, rfl, hsa, hfl, hkd, _, hs8⟩, hr', hfit, q⟩
  refine ⟨_, (pss_cons (ps_for PassesOwn.never rfl (pi_range1 rfl B.range_ (pa_cons (pe_callB call_len_seq rfl B.len_ PySem.boot_len (pa_cons (pv 0) pa_nil)) pa_nil)) (pg_name (i := 2) sc_law_valid.nd rfl (Or.inl rfl)) (pss_cons (ps_set (i := 3) sc_law_valid.nd rfl (Or.inl rfl) (pe_ix ix_tup (pe_ix ix_tup (pv 0) (pv 2) (fun _ _ => rfl)) pe_int (fun _ _ => rfl)))
      (pss_cons (ps_set (i := 4) sc_law_valid.nd rfl (Or.inl rfl) (pe_ix ix_tup (pv 1) (pv 2) (fun _ _ => rfl)))
      (pss_cons (ps_if (PW.pt (pw_and (pt_cmpR op_eq (pe_ix ix_tup (pv 3) pe_int (fun _ _ => rfl)) pe_str (nomark _)) (pw_and1 (PW.pt (pw_or (pt_val (pe_callB call_isi rfl B.isinstance_ (by decide +kernel) (pa_cons (pv 4) (pa_cons (pe_bltn (v := .ty "bool") rfl B.bool_ (by decide +kernel) rfl) pa_nil)))) (pw_or1 (pt_not (pt_chain op_le op_le (pe_ix ix_tup (pv 3) pe_int (fun _ _ => rfl)) (pv 4) (pe_ix ix_tup (pv 3) pe_int (fun _ _ => rfl)))))))))) (pss_one (ps_ret pe_bl)) pss_nil)
      (pss_cons (ps_if (PW.pt (pw_and (pt_cmpR op_eq (pe_ix ix_tup (pv 3) pe_int (fun _ _ => rfl)) pe_str (nomark _)) (pw_and1 (pt_not (pt_val (pe_callB call_isi rfl B.isinstance_ (by decide +kernel) (pa_cons (pv 4) (pa_cons (pe_bltn (v := .ty "bool") rfl B.bool_ (by decide +kernel) rfl) pa_nil)))))))) (pss_one (ps_ret pe_bl)) pss_nil)
      (pss_cons (ps_if (PW.pt (pw_and (pt_cmpR op_eq (pe_ix ix_tup (pv 3) pe_int (fun _ _ => rfl)) pe_str (nomark _)) (pw_and1 (pt_cmpR op_notIn_seq (pv 4) (pe_ix ix_tup (pv 3) pe_int (fun _ _ => rfl)) (by rfl))))) (pss_one (ps_ret pe_bl)) pss_nil)
      (pss_one (ps_if (PW.pt (pw_and (pt_cmpR op_eq (pe_ix ix_tup (pv 3) pe_int (fun _ _ => rfl)) pe_str (nomark _)) (pw_and1 (PW.pt (pw_or (pt_not (pt_val (pe_callB call_isi rfl B.isinstance_ (by decide +kernel) (pa_cons (pv 4) (pa_cons (pe_bltn (v := .ty "str") rfl B.str_ (by decide +kernel) rfl) pa_nil))))) (pw_or1 (pt_cmpR op_gt (pe_callB call_len_str rfl B.len_ PySem.boot_len (pa_cons (pv 4) pa_nil)) (pe_ix ix_tup (pv 3) pe_int (fun _ _ => rfl)) (nomark _)))))))) (pss_one (ps_ret pe_bl)) pss_nil))))))))
      (pss_one (ps_ret pe_bl))), ?_⟩
  walk_at "K"
  have lf := hfl.length
  walk_at "go2"
  refine s_for (i_rng ?_)
  walk_at "go2"
  refine ⟨sa, fxs, rfl, .inr (SqT.of hsa), ?_⟩
  refine ⟨_, rfl, by omega, by omega, ?_⟩
  rw [Int.toNat_natCast]
  refine for_range (fun j σ H' => H' = H ∧ ∃ u2 u3 u4, σ = [some (.ref sa), some (.ref r), u2, u3, u4]) ⟨rfl, _, _, _, rfl⟩ ?_ ?_
  · rintro j σ H' hj ⟨rfl, u2, u3, u4, rfl⟩
    have hx : fxs[j]? = some fxs[j] := List.getElem?_eq_getElem hj
    obtain ⟨fld, hfld, fa, kv, efa, hfa, hkv⟩ := Paired.getL hfl hx
    rw [efa] at hx
    have hkk : (kinds sch)[j]? = some fld.2 := by unfold kinds; rw [List.getElem?_map, hfld]; rfl
    obtain ⟨v, hv, gv⟩ := fit_get hfit hkk
    have kb := hkd _ (List.mem_of_getElem? hfld)
    obtain ⟨nm, b⟩ := fld
    walk_at "go2"
    refine r_ixT hsa (at_n hx) ?_
    walk_at "go2"
    refine r_ixT hr' (at_n hv) ?_
    cases b with
    | int lo hi =>
      obtain ⟨ka, rfl, hka⟩ := hkv
      obtain ⟨i, rfl, i1, i2⟩ := gv
      walk_at "go2"
      refine if_dec (fun _ => ?_) (fun c => absurd i1 c)
      walk_at "go2"
      refine if_ndec (fun c => absurd i2 c) (fun _ => ?_)
      walk_at "go2"
      exact ⟨rfl, _, _, _, rfl⟩
    | flag =>
      obtain ⟨ka, rfl, hka⟩ := hkv
      obtain ⟨i, rfl⟩ := gv
      walk_at "go2"
      exact ⟨rfl, _, _, _, rfl⟩
    | word ws =>
      obtain ⟨ka, kc, rfl, hka, hkc⟩ := hkv
      obtain ⟨sw, rfl, hsw⟩ := gv
      walk_at "go2"
      refine if_f (by rw [inV_str, decide_eq_true hsw]; rfl) ?_
      walk_at "go2"
      exact ⟨rfl, _, _, _, rfl⟩
    | text n =>
      obtain ⟨ka, rfl, hka⟩ := hkv
      obtain ⟨sw, rfl, hsw⟩ := gv
      have hn40 := (show 0 ≤ n ∧ n ≤ 40 from kb).2
      walk_at "go2"
      refine ⟨_, rfl, sz10 (by omega), ?_⟩
      walk_at "go2"
      refine if_dec (fun c => absurd hsw (by omega)) (fun _ => ?_)
      walk_at "go2"
      exact ⟨rfl, _, _, _, rfl⟩
  · rintro σ H' ⟨rfl, u2, u3, u4, rfl⟩
    walk_at "go2"
    exact q
end
end Snk
set_option Elab.async false
set_option linter.all false
set_option maxRecDepth 100000
set_option maxHeartbeats 4000000
namespace Snk
open PySem PySem.Spec PyProof.Rows L2 GxR GxT
local macro_rules | `(tactic| walk_at "K") => `(tactic| try simp only [ws_K, ws_P, ws_w, cx_K, cx_P, cx_w])
local macro_rules | `(tactic| walk_at "isi") => `(tactic| first
  | with_reducible refine r_isB (.base (.int _)) kk_int_int ?_ | with_reducible refine r_isB (.base (.int _)) kk_int_bool ?_ | with_reducible refine r_isB (.base (.int _)) kk_int_str ?_ | with_reducible refine r_isB (.base (.int _)) kk_int_tuple ?_ | with_reducible refine r_isB (.base (.bl _)) kk_bool_int ?_ | with_reducible refine r_isB (.base (.bl _)) kk_bool_bool ?_ | with_reducible refine r_isB (.base (.bl _)) kk_bool_str ?_ | with_reducible refine r_isB (.base (.bl _)) kk_bool_tuple ?_ | with_reducible refine r_isB (.base (.str _)) kk_str_int ?_ | with_reducible refine r_isB (.base (.str _)) kk_str_bool ?_ | with_reducible refine r_isB (.base (.str _)) kk_str_str ?_ | with_reducible refine r_isB (.base (.str _)) kk_str_tuple ?_ | with_reducible refine r_isB (.base .non) kk_NoneType_int ?_ | with_reducible refine r_isB (.base .non) kk_NoneType_bool ?_ | with_reducible refine r_isB (.base .non) kk_NoneType_str ?_ | with_reducible refine r_isB (.base .non) kk_NoneType_tuple ?_ | with_reducible refine r_isB (.base (.tup (by assumption))) kk_tuple_int ?_ | with_reducible refine r_isB (.base (.tup (by assumption))) kk_tuple_bool ?_ | with_reducible refine r_isB (.base (.tup (by assumption))) kk_tuple_str ?_ | with_reducible refine r_isB (.base (.tup (by assumption))) kk_tuple_tuple ?_)
local macro_rules | `(tactic| tb_rel) => `(tactic| first | assumption | exact upd_same | ((refine look_old ?hl ?hn); (case hn => assumption); (case hl => tb_rel)) | ((refine Gr.tup (by assumption) _ _ ?hl); (case hl => tb_rel)))
local macro_rules | `(tactic| tb_start) => `(tactic| first
  | ((with_reducible refine' r_var ?hvar ?_); (case hvar => exact rfl))
  | with_reducible refine r_c ?_ | with_reducible refine r_op ?_ | with_reducible refine r_un ?_ | with_reducible refine r_chain ?_ | with_reducible refine r_tup ?_ | with_reducible refine r_lst ?_ | with_reducible refine r_cons ?_ | with_reducible refine r_nil ?_ | with_reducible refine r_cb ?_ | with_reducible refine r_call ?_ | with_reducible refine r_bm ?_ | with_reducible refine r_bm0 ?_ | with_reducible refine r_sl ?_ | with_reducible refine r_test ?_ | with_reducible refine r_tb ?_ | with_reducible refine r_tand ?_ | with_reducible refine r_tor ?_ | with_reducible refine r_tnot ?_ | with_reducible refine r_andV ?_ | with_reducible refine r_orV ?_ | with_reducible refine r_notV ?_ | with_reducible refine r_ife ?_ | with_reducible refine s_seq ?_ | with_reducible refine s_nextM ?_ | with_reducible refine s_next ?_ | with_reducible refine s_ret ?_ | with_reducible refine s_if ?_ | with_reducible refine s_asg ?_ | with_reducible refine s_drop ?_ | with_reducible refine s_cont ?_ | with_reducible refine s_break ?_ | with_reducible refine g_name ?_ | with_reducible refine r_I0 ?_ | with_reducible refine r_U ?_ | with_reducible refine k_bl2 ?_ | with_reducible refine r_part ?_ | with_reducible refine r_nopart ?_ | with_reducible refine if_tt ?_ | with_reducible refine if_ff ?_ | with_reducible refine if_nf ?_ | with_reducible refine if_nt ?_
  | ((with_reducible refine' r_eq ?hsc ?_); (case hsc => exact rfl)) | ((with_reducible refine' r_ne ?hsc ?_); (case hsc => exact rfl)) | ((with_reducible refine isi_g ?_); walk_at "isi") | (first | ((with_reducible refine' r_ixT ?hix ?eix ?_); (case hix => tb_rel); (case eix => first | exact at0 | exact at1 | exact at2 | rfl))) | ((with_reducible refine' if_t ?hc ?_); (case hc => decide +kernel)) | ((with_reducible refine' if_f ?hc ?_); (case hc => decide +kernel)))
local macro_rules | `(tactic| walk_at "go") => `(tactic| repeat tb_start)
local macro_rules | `(tactic| walk_at "gr") => `(tactic| first | exact Gr.refl _ _ | assumption | ((refine Gr.trans ?ga (Gr.new ?gn)); (case gn => assumption); (case ga => walk_at "gr")) | ((refine' Gr.trans ?ga ?gb); (case gb => assumption); (case ga => walk_at "gr")))
local macro_rules | `(tactic| walk_at "go2") => `(tactic| repeat (first | tb_start | (((with_reducible refine' And.intro ?hz ?_); (case hz => (refine sz10 ?_; first | decide | (simp; done) | (simp; omega))); intro p hp)) | (first | ((with_reducible refine' r_inT ?hs ?hf ?ha ?_); (case hs => first | assumption | exact SqT.of (by tb_rel)); (case hf => rfl); (case ha => first | rfl | decide +kernel | exact flat_strs)) | ((with_reducible refine' r_niT ?hs ?hf ?ha ?_); (case hs => first | assumption | exact SqT.of (by tb_rel)); (case hf => rfl); (case ha => first | rfl | decide +kernel | exact flat_strs)))))
local macro_rules | `(tactic| tb_start) => `(tactic| with_reducible refine k_int ?_)
local macro_rules | `(tactic| tb_start) => `(tactic| ((with_reducible refine' And.intro (ty_lst ?ht) ?_); (case ht => tb_rel)))
local macro_rules | `(tactic| tb_start) => `(tactic| ((with_reducible refine' s_aug ?h1 ?_); (case h1 => exact rfl)))
local macro_rules | `(tactic| tb_start) => `(tactic| with_reducible refine r_ip ?_)
local macro_rules | `(tactic| tb_start) => `(tactic| with_reducible refine r_gsub ?_)
local macro_rules | `(tactic| tb_rel) => `(tactic| first | assumption | exact upd_same | ((with_reducible refine look_old ?hl ?hn); (case hn => assumption); (case hl => tb_rel)) | ((with_reducible refine' look_n ?h1 ?nn); (case nn => first | assumption | exact Ne.symm (by assumption)); (case h1 => tb_rel)) | ((with_reducible refine' look_t ?h1 ?h2); (case h2 => tb_rel); (case h1 => tb_rel)) | ((with_reducible refine' look_td ?h1 ?h2); (case h2 => tb_rel); (case h1 => tb_rel)) | ((with_reducible refine' look_ld ?h1 ?h2); (case h2 => tb_rel); (case h1 => tb_rel)) | ((refine Gr.tup (by assumption) _ _ ?hl); (case hl => tb_rel)))
local macro_rules | `(tactic| tb_start) => `(tactic| ((with_reducible refine' r_I ?hc ?_); (case hc => first | exact (show (_ : Int) ≠ 0 by decide) | exact ⟨by decide, by decide⟩ | exact Or.inr ⟨by decide, by decide⟩ | exact ⟨by decide, by decide, by decide⟩)))
local macro_rules | `(tactic| tb_start) => `(tactic| with_reducible refine (Or.inl ⟨_, rfl, ?_⟩ : (∃ j, [V.int _] = [V.int j] ∧ _) ∨ _))
section
variable {P : Program} {w : World} {K : PySem.W.Frag} {mg : Str → Option Value} {base : Heap} {CX : CXT}
def LayI (t : TA) (n : Nat) : Prop := ∀ (σ : L2.St) (H : Hp) (QA : List V → Hp → Prop), (∀ H' us, Gr no H H' → Items H' us → us.length = n → QA us H') → t σ H QA
def LayE (te : TE) : Prop := ∀ (σ : L2.St) (H : Hp) (Q : VK), (∀ H' u, Gr no H H' → ItemV H' u → Q u H') → te σ H Q
theorem layI_nil : LayI tNil 0 := fun σ H QA h => h H [] (Gr.refl _ _) (fun x hx => nomatch hx) rfl
theorem layI_cons {te : TE} {tr : TA} {n : Nat} (h : LayE te) (k : LayI tr n) : LayI (tCons te tr) (n + 1) := fun σ H QA q =>
  h σ H _ fun H1 u g1 hu => k σ H1 _ fun H2 us g2 hus hl => q H2 (u :: us) (g1.trans g2) (fun x hx => by
    rcases List.mem_cons.mp hx with rfl | hx
    · exact hu.gr g2
    · exact hus x hx) (by rw [List.length_cons, hl])
theorem it_int : LayE (tC (.int 7)) := fun σ H Q q => q H _ (Gr.refl _ _) (.inl rfl)
theorem it_row1 {h : Str} : LayE (tTup (tCons (tC (.str h)) tNil)) := fun σ H Q q => ⟨sz10 (by simp), fun p hp => q _ _ (Gr.new hp) (.inr ⟨p, h, [], rfl, upd_same, row_0⟩)⟩
theorem it_row2 {h : Str} {te : TE} {v : V} (e : ∀ (σ : L2.St) (H : Hp) (Q : VK), Q v H → te σ H Q) (ok : RowOk h [v]) : LayE (tTup (tCons (tC (.str h)) (tCons te tNil))) := fun σ H Q q =>
  e σ H _ ⟨sz10 (by simp), fun p hp => q _ _ (Gr.new hp) (.inr ⟨p, h, [v], rfl, upd_same, ok⟩)⟩
theorem r_ixAny {H : Hp} {p : Addr} {xs : List V} {x n : Int} {Q : VK} (h : H p = some (.lst xs)) (hn : n = (xs.length : Int)) (h0 : 0 < n) (q : ∀ v, v ∈ xs → Q v H) : rIxL K (.ref p) (.int (x.fmod n)) H Q := by
  obtain ⟨v, hv, ev⟩ := at_mod (x := x) hn h0
  exact r_ixL h ev (q v hv)
/-! ### _law_instruction -/
abbrev nm_law_instruction : List Str := ["_law_draw", "_law_rows"]
theorem sc_law_instruction : FnScope nm_law_instruction ["_law_draw"] (defScope (topS 59)) := ⟨rfl, rfl, rfl, by decide +kernel, rfl, by decide +kernel, by decide +kernel⟩
-- slots: 0:_law_draw 1:_law_rows
def spInstr : Sp := fun vs H Q _ => ∃ (d : Int), vs = [.int d] ∧ ∀ H' u, Gr no H H' → ItemV H' u → Q u H'
set_option maxHeartbeats 16000000 in
theorem c_law_instruction (D : DefAt K mg "_law_instruction" 59 ["_law_draw"]) (B : Blt mg) : Cal P w K mg base CX0 1 "_law_instruction" ["_law_draw"] spInstr := by
  refine mk0 D sc_law_instruction (fun vs H Q E h => by obtain ⟨_, rfl, _⟩ := h; rfl) ?_
  rintro X Q vs H E ⟨f, cdv, A, outer, s, H0, rfl⟩ hr ⟨d, rfl, q⟩
  refine ⟨_, (pss_cons (ps_set (i := 1) sc_law_instruction.nd rfl (Or.inl rfl) (pe_lst (pa_cons (pe_tup (pa_cons pe_str (pa_cons pe_int pa_nil))) (pa_cons (pe_tup (pa_cons pe_str (pa_cons pe_bl pa_nil))) (pa_cons (pe_tup (pa_cons pe_str (pa_cons pe_str pa_nil))) (pa_cons (pe_tup (pa_cons pe_str (pa_cons (pe_un un_neg pe_int) pa_nil))) (pa_cons (pe_tup (pa_cons pe_str (pa_cons pe_str pa_nil))) (pa_cons (pe_tup (pa_cons pe_str (pa_cons pe_int pa_nil))) (pa_cons (pe_tup (pa_cons pe_str (pa_cons pe_int pa_nil))) (pa_cons (pe_tup (pa_cons pe_str (pa_cons pe_int pa_nil))) (pa_cons (pe_tup (pa_cons pe_str (pa_cons pe_int pa_nil))) (pa_cons (pe_tup (pa_cons pe_str (pa_cons pe_int pa_nil))) (pa_cons (pe_tup (pa_cons pe_str (pa_cons pe_int pa_nil))) (pa_cons (pe_tup (pa_cons pe_str (pa_cons pe_int pa_nil))) (pa_cons (pe_tup (pa_cons pe_str (pa_cons pe_int pa_nil))) (pa_cons (pe_tup (pa_cons pe_str pa_nil)) (pa_cons (pe_tup (pa_cons pe_str pa_nil)) (pa_cons (pe_tup (pa_cons pe_str pa_nil)) (pa_cons (pe_tup (pa_cons pe_str pa_nil)) (pa_cons (pe_tup (pa_cons pe_str pa_nil)) (pa_cons (pe_tup (pa_cons pe_str pa_nil)) (pa_cons (pe_tup (pa_cons pe_str pa_nil)) (pa_cons (pe_tup (pa_cons pe_str pa_nil)) (pa_cons (pe_tup (pa_cons pe_str pa_nil)) (pa_cons (pe_tup (pa_cons pe_str pa_nil)) (pa_cons (pe_tup (pa_cons pe_str pa_nil)) (pa_cons (pe_tup (pa_cons pe_str pa_nil)) (pa_cons (pe_tup (pa_cons pe_str (pa_cons pe_int pa_nil))) (pa_cons (pe_tup (pa_cons pe_str (pa_cons pe_int pa_nil))) (pa_cons (pe_tup (pa_cons pe_str (pa_cons pe_int pa_nil))) (pa_cons (pe_tup (pa_cons pe_str (pa_cons pe_int pa_nil))) (pa_cons (pe_tup (pa_cons pe_str (pa_cons pe_int pa_nil))) (pa_cons (pe_tup (pa_cons pe_str (pa_cons pe_int pa_nil))) (pa_cons (pe_tup (pa_cons pe_str (pa_cons pe_int pa_nil))) (pa_cons (pe_tup (pa_cons pe_str (pa_cons pe_int pa_nil))) (pa_cons (pe_tup (pa_cons pe_str (pa_cons pe_non pa_nil))) (pa_cons (pe_tup (pa_cons pe_str (pa_cons pe_int pa_nil))) (pa_cons (pe_tup (pa_cons pe_str (pa_cons pe_int pa_nil))) (pa_cons (pe_tup (pa_cons pe_str pa_nil)) (pa_cons pe_int pa_nil))))))))))))))))))))))))))))))))))))))))
      (pss_one (ps_ret (pe_ix ix_list (pv 1) (pe_op op_modN (pv 0) pe_int) (fun _ _ => rfl))))), ?_⟩
  walk_at "K"
  refine s_seq (s_asg (r_lst ?_))
  refine (layI_cons (it_row2 (fun _ _ _ q => q) (row_push (v := .int 5) trivial)) (layI_cons (it_row2 (fun _ _ _ q => q) (row_push (v := .bl true) trivial)) (layI_cons (it_row2 (fun _ _ _ q => q) (row_push (v := .str "ab") (show Str.length "ab" ≤ 1000 by decide +kernel))) (layI_cons (it_row2 (fun _ _ _ q => ⟨_, rfl, q⟩) (row_push (v := .int (-1000000000000000000)) trivial)) (layI_cons (it_row2 (fun _ _ _ q => q) (row_word (by decide +kernel))) (layI_cons (it_row2 (fun _ _ _ q => q) row_int) (layI_cons (it_row2 (fun _ _ _ q => q) row_int) (layI_cons (it_row2 (fun _ _ _ q => q) row_int) (layI_cons (it_row2 (fun _ _ _ q => q) row_int) (layI_cons (it_row2 (fun _ _ _ q => q) row_int) (layI_cons (it_row2 (fun _ _ _ q => q) row_int) (layI_cons (it_row2 (fun _ _ _ q => q) row_int) (layI_cons (it_row2 (fun _ _ _ q => q) row_int) (layI_cons it_row1 (layI_cons it_row1 (layI_cons it_row1 (layI_cons it_row1 (layI_cons it_row1 (layI_cons it_row1 (layI_cons it_row1 (layI_cons it_row1 (layI_cons it_row1 (layI_cons it_row1 (layI_cons it_row1 (layI_cons it_row1 (layI_cons (it_row2 (fun _ _ _ q => q) row_int) (layI_cons (it_row2 (fun _ _ _ q => q) row_int) (layI_cons (it_row2 (fun _ _ _ q => q) row_int) (layI_cons (it_row2 (fun _ _ _ q => q) row_int) (layI_cons (it_row2 (fun _ _ _ q => q) row_int) (layI_cons (it_row2 (fun _ _ _ q => q) row_int) (layI_cons (it_row2 (fun _ _ _ q => q) row_int) (layI_cons (it_row2 (fun _ _ _ q => q) row_int) (layI_cons (it_row2 (fun _ _ _ q => q) (row_push (v := .non) trivial)) (layI_cons (it_row2 (fun _ _ _ q => q) row_int) (layI_cons (it_row2 (fun _ _ _ q => q) row_int) (layI_cons it_row1 (layI_cons it_int layI_nil)))))))))))))))))))))))))))))))))))))) _ _ _ fun H1 us g hi hl => ?_
  refine ⟨sz10 (by omega), fun p hp => ?_⟩
  walk_at "go2"
  refine r_ixAny upd_same (by rw [hl]; rfl) (by decide) fun v hv => q _ v (g.trans (Gr.new hp)) ((hi v hv).gr (x := no) (Gr.new hp))
/-! ### _law_changed -/
abbrev nm_law_changed : List Str := ["_law_code_here", "_law_draws_here", "_law_draw", "_law_at_here", "_law_row"]
theorem sc_law_changed : FnScope nm_law_changed ["_law_code_here", "_law_draws_here"] (defScope (topS 60)) := ⟨rfl, rfl, rfl, by decide +kernel, rfl, by decide +kernel, by decide +kernel⟩
-- slots: 0:_law_code_here 1:_law_draws_here 2:_law_draw 3:_law_at_here 4:_law_row
def spChanged : Sp := fun vs H Q _ => ∃ (c a : Addr) (xs : List V), vs = [.ref c, .ref a] ∧ H c = some (.tup xs) ∧ xs.length ≤ 90000 ∧ Items H xs ∧ DrV H a ∧ ∀ H' p ys, Gr (fun b => b = a) H H' → DrV H' a → H' p = some (.tup ys) → Items H' ys → ys.length ≤ xs.length + 1 → Q (.ref p) H'
theorem c_law_changed (D : DefAt K mg "_law_changed" 60 ["_law_code_here", "_law_draws_here"]) (B : Blt mg) (c_law_next : Cal P w K mg base CX0 1 "_law_next" ["_law_draws_here"] spNext) (c_law_instruction : Cal P w K mg base CX0 1 "_law_instruction" ["_law_draw"] spInstr) : Cal P w K mg base CX0 2 "_law_changed" ["_law_code_here", "_law_draws_here"] spChanged := by
  refine mk0 D sc_law_changed (fun vs H Q E h => by obtain ⟨_, _, _, rfl, _⟩ := h; rfl) ?_
  rintro X Q vs H E ⟨f, cdv, A, outer, s, H0, rfl⟩ hr ⟨c, a, xs, rfl, hc, hl, hit, hdr, q⟩
  refine ⟨_, (pss_cons (ps_set (i := 2) sc_law_changed.nd rfl (Or.inl rfl) (pc0 c_law_next hr (by decide) (pa_cons (pv 1) pa_nil)))
      (pss_cons (ps_set (i := 3) sc_law_changed.nd rfl (Or.inl rfl) (pe_op op_modN (pe_op op_fdivN (pv 2) pe_int) (pe_op op_add (pe_callB call_len_seq rfl B.len_ PySem.boot_len (pa_cons (pv 0) pa_nil)) pe_int)))
      (pss_cons (ps_set (i := 4) sc_law_changed.nd rfl (Or.inl rfl) (pc0 c_law_instruction hr (by decide) (pa_cons (pe_op op_fdivN (pv 2) pe_int) pa_nil)))
      (pss_cons (ps_if (pt_cmpR op_eq (pe_op op_modN (pv 2) pe_int) pe_int (nomark _)) (pss_one (ps_ret (pe_op op_catA (pe_op op_catA (pe_slice sl_tupA (pv 0) po_none (po_some (pv 3))) (pe_tup (pa_cons (pv 4) pa_nil))) (pe_slice sl_tupA (pv 0) (po_some (pv 3)) po_none)))) pss_nil)
      (pss_cons (ps_if (pt_cmpR op_eq (pe_op op_modN (pv 2) pe_int) pe_int (nomark _)) (pss_one (ps_ret (pe_op op_catA (pe_slice sl_tupA (pv 0) po_none (po_some (pv 3))) (pe_slice sl_tupA (pv 0) (po_some (pe_op op_add (pv 3) pe_int)) po_none)))) pss_nil)
      (pss_one (ps_ret (pe_op op_catA (pe_op op_catA (pe_slice sl_tupA (pv 0) po_none (po_some (pv 3))) (pe_tup (pa_cons (pv 4) pa_nil))) (pe_slice sl_tupA (pv 0) (po_some (pe_op op_add (pv 3) pe_int)) po_none))))))))), ?_⟩
  walk_at "K"
  walk_at "go2"
  refine ⟨a, rfl, hdr, fun H1 i g1 d1 => ?_⟩
  have hc1 := g1.tup _ _ hc
  walk_at "go2"
  refine ⟨c, xs, rfl, .inr (SqT.of hc1), ?_⟩
  walk_at "go2"
  refine r_I (by omega) ?_
  obtain ⟨m1, m2⟩ := fmod_lo (a := i.fdiv 3) (n := (xs.length : Int) + 1) (by omega)
  generalize (i.fdiv 3).fmod ((xs.length : Int) + 1) = m at m1 m2
  walk_at "go2"
  refine ⟨_, rfl, fun H2 u g2 hu => ?_⟩
  have hc2 := g2.tup _ _ hc1
  have G2 : Gr (fun b => b = a) H H2 := g1.trans g2.any
  have hit2 := hit.gr G2
  have d2 := d1.gr g2 id
  have itk : ∀ {n : Nat} {H' : Hp}, Gr no H2 H' → Items H' (xs.take n) := fun g y hy => (hit2.gr g) y (List.mem_of_mem_take hy)
  have idr : ∀ {n : Nat} {H' : Hp}, Gr no H2 H' → Items H' (xs.drop n) := fun g y hy => (hit2.gr g) y (List.mem_of_mem_drop hy)
  have ltk : (xs.take m.toNat).length = m.toNat := by rw [List.length_take]; omega
  have ldr : (xs.drop m.toNat).length = xs.length - m.toNat := List.length_drop ..
  have ldr2 : (xs.drop (m + 1).toNat).length = xs.length - (m + 1).toNat := List.length_drop ..
  have uI : ∀ {H' : Hp}, Gr no H2 H' → Items H' [u] := fun g y hy => by
    rw [List.mem_singleton] at hy
    rw [hy]; exact hu.gr g
  walk_at "go2"
  refine if_i (fun c1 => ?_) (fun c1 => ?_)
  · walk_at "go2"
    refine r_slTo hc2 m1 fun p H3 g3 e3 => ?_
    walk_at "go2"
    rename_i t ht
    refine r_catT (look_old e3 ht) upd_same (by simp; omega) fun p2 H4 g4 e4 => ?_
    have g24 : Gr no H2 H4 := (g3.trans (Gr.new ht)).trans g4
    walk_at "go2"
    refine r_slFrom (g24.tup _ _ hc2) m1 fun p3 H5 g5 e5 => ?_
    have g25 := g24.trans g5
    refine r_catT (g5.tup _ _ e4) e5 (by simp; omega) fun p4 H6 g6 e6 => ?_
    have g26 := g25.trans g6
    exact q H6 p4 _ (G2.trans g26.any) (d2.gr g26 id) e6 (((itk g26).app (uI g26)).app (idr g26)) (by simp; omega)
  · walk_at "go2"
    refine if_i (fun c2 => ?_) (fun c2 => ?_)
    · walk_at "go2"
      refine r_slTo hc2 m1 fun p H3 g3 e3 => ?_
      walk_at "go2"
      refine r_slFrom (g3.tup _ _ hc2) (by omega) fun p3 H5 g5 e5 => ?_
      have g25 := g3.trans g5
      refine r_catT (g5.tup _ _ e3) e5 (by simp; omega) fun p4 H6 g6 e6 => ?_
      have g26 := g25.trans g6
      exact q H6 p4 _ (G2.trans g26.any) (d2.gr g26 id) e6 ((itk g26).app (idr g26)) (by simp; omega)
    · walk_at "go2"
      refine r_slTo hc2 m1 fun p H3 g3 e3 => ?_
      walk_at "go2"
      rename_i t ht
      refine r_catT (look_old e3 ht) upd_same (by simp; omega) fun p2 H4 g4 e4 => ?_
      have g24 : Gr no H2 H4 := (g3.trans (Gr.new ht)).trans g4
      walk_at "go2"
      refine r_slFrom (g24.tup _ _ hc2) (by omega) fun p3 H5 g5 e5 => ?_
      have g25 := g24.trans g5
      refine r_catT (g5.tup _ _ e4) e5 (by simp; omega) fun p4 H6 g6 e6 => ?_
      have g26 := g25.trans g6
      exact q H6 p4 _ (G2.trans g26.any) (d2.gr g26 id) e6 (((itk g26).app (uI g26)).app (idr g26)) (by simp; omega)
end
end Snk
set_option Elab.async false
set_option linter.all false
set_option maxRecDepth 100000
set_option maxHeartbeats 4000000
namespace Snk
open PySem PySem.Spec PyProof.Rows L2 GxR GxT
local macro_rules | `(tactic| walk_at "K") => `(tactic| try simp only [ws_K, ws_P, ws_w, cx_K, cx_P, cx_w])
local macro_rules | `(tactic| walk_at "isi") => `(tactic| first
  | with_reducible refine r_isB (.base (.int _)) kk_int_int ?_ | with_reducible refine r_isB (.base (.int _)) kk_int_bool ?_ | with_reducible refine r_isB (.base (.int _)) kk_int_str ?_ | with_reducible refine r_isB (.base (.int _)) kk_int_tuple ?_ | with_reducible refine r_isB (.base (.bl _)) kk_bool_int ?_ | with_reducible refine r_isB (.base (.bl _)) kk_bool_bool ?_ | with_reducible refine r_isB (.base (.bl _)) kk_bool_str ?_ | with_reducible refine r_isB (.base (.bl _)) kk_bool_tuple ?_ | with_reducible refine r_isB (.base (.str _)) kk_str_int ?_ | with_reducible refine r_isB (.base (.str _)) kk_str_bool ?_ | with_reducible refine r_isB (.base (.str _)) kk_str_str ?_ | with_reducible refine r_isB (.base (.str _)) kk_str_tuple ?_ | with_reducible refine r_isB (.base .non) kk_NoneType_int ?_ | with_reducible refine r_isB (.base .non) kk_NoneType_bool ?_ | with_reducible refine r_isB (.base .non) kk_NoneType_str ?_ | with_reducible refine r_isB (.base .non) kk_NoneType_tuple ?_ | with_reducible refine r_isB (.base (.tup (by assumption))) kk_tuple_int ?_ | with_reducible refine r_isB (.base (.tup (by assumption))) kk_tuple_bool ?_ | with_reducible refine r_isB (.base (.tup (by assumption))) kk_tuple_str ?_ | with_reducible refine r_isB (.base (.tup (by assumption))) kk_tuple_tuple ?_)
local macro_rules | `(tactic| tb_rel) => `(tactic| first | assumption | exact upd_same | ((refine look_old ?hl ?hn); (case hn => assumption); (case hl => tb_rel)) | ((refine Gr.tup (by assumption) _ _ ?hl); (case hl => tb_rel)))
local macro_rules | `(tactic| tb_start) => `(tactic| first
  | ((with_reducible refine' r_var ?hvar ?_); (case hvar => exact rfl))
  | with_reducible refine r_c ?_ | with_reducible refine r_op ?_ | with_reducible refine r_un ?_ | with_reducible refine r_chain ?_ | with_reducible refine r_tup ?_ | with_reducible refine r_lst ?_ | with_reducible refine r_cons ?_ | with_reducible refine r_nil ?_ | with_reducible refine r_cb ?_ | with_reducible refine r_call ?_ | with_reducible refine r_bm ?_ | with_reducible refine r_bm0 ?_ | with_reducible refine r_sl ?_ | with_reducible refine r_test ?_ | with_reducible refine r_tb ?_ | with_reducible refine r_tand ?_ | with_reducible refine r_tor ?_ | with_reducible refine r_tnot ?_ | with_reducible refine r_andV ?_ | with_reducible refine r_orV ?_ | with_reducible refine r_notV ?_ | with_reducible refine r_ife ?_ | with_reducible refine s_seq ?_ | with_reducible refine s_nextM ?_ | with_reducible refine s_next ?_ | with_reducible refine s_ret ?_ | with_reducible refine s_if ?_ | with_reducible refine s_asg ?_ | with_reducible refine s_drop ?_ | with_reducible refine s_cont ?_ | with_reducible refine s_break ?_ | with_reducible refine g_name ?_ | with_reducible refine r_I0 ?_ | with_reducible refine r_U ?_ | with_reducible refine k_bl2 ?_ | with_reducible refine r_part ?_ | with_reducible refine r_nopart ?_ | with_reducible refine if_tt ?_ | with_reducible refine if_ff ?_ | with_reducible refine if_nf ?_ | with_reducible refine if_nt ?_
  | ((with_reducible refine' r_eq ?hsc ?_); (case hsc => exact rfl)) | ((with_reducible refine' r_ne ?hsc ?_); (case hsc => exact rfl)) | ((with_reducible refine isi_g ?_); walk_at "isi") | (first | ((with_reducible refine' r_ixT ?hix ?eix ?_); (case hix => tb_rel); (case eix => first | exact at0 | exact at1 | exact at2 | rfl))) | ((with_reducible refine' if_t ?hc ?_); (case hc => decide +kernel)) | ((with_reducible refine' if_f ?hc ?_); (case hc => decide +kernel)))
local macro_rules | `(tactic| walk_at "go") => `(tactic| repeat tb_start)
local macro_rules | `(tactic| walk_at "gr") => `(tactic| first | exact Gr.refl _ _ | assumption | ((refine Gr.trans ?ga (Gr.new ?gn)); (case gn => assumption); (case ga => walk_at "gr")) | ((refine' Gr.trans ?ga ?gb); (case gb => assumption); (case ga => walk_at "gr")))
local macro_rules | `(tactic| walk_at "go2") => `(tactic| repeat (first | tb_start | (((with_reducible refine' And.intro ?hz ?_); (case hz => (refine sz10 ?_; first | decide | (simp; done) | (simp; omega))); intro p hp)) | (first | ((with_reducible refine' r_inT ?hs ?hf ?ha ?_); (case hs => first | assumption | exact SqT.of (by tb_rel)); (case hf => rfl); (case ha => first | rfl | decide +kernel | exact flat_strs)) | ((with_reducible refine' r_niT ?hs ?hf ?ha ?_); (case hs => first | assumption | exact SqT.of (by tb_rel)); (case hf => rfl); (case ha => first | rfl | decide +kernel | exact flat_strs)))))
local macro_rules | `(tactic| tb_start) => `(tactic| with_reducible refine k_int ?_)
local macro_rules | `(tactic| tb_start) => `(tactic| ((with_reducible refine' And.intro (ty_lst ?ht) ?_); (case ht => tb_rel)))
local macro_rules | `(tactic| tb_start) => `(tactic| ((with_reducible refine' s_aug ?h1 ?_); (case h1 => exact rfl)))
local macro_rules | `(tactic| tb_start) => `(tactic| with_reducible refine r_ip ?_)
local macro_rules | `(tactic| tb_start) => `(tactic| with_reducible refine r_gsub ?_)
local macro_rules | `(tactic| tb_rel) => `(tactic| first | assumption | exact upd_same | ((with_reducible refine look_old ?hl ?hn); (case hn => assumption); (case hl => tb_rel)) | ((with_reducible refine' look_n ?h1 ?nn); (case nn => first | assumption | exact Ne.symm (by assumption)); (case h1 => tb_rel)) | ((with_reducible refine' look_t ?h1 ?h2); (case h2 => tb_rel); (case h1 => tb_rel)) | ((with_reducible refine' look_td ?h1 ?h2); (case h2 => tb_rel); (case h1 => tb_rel)) | ((with_reducible refine' look_ld ?h1 ?h2); (case h2 => tb_rel); (case h1 => tb_rel)) | ((refine Gr.tup (by assumption) _ _ ?hl); (case hl => tb_rel)))
local macro_rules | `(tactic| tb_start) => `(tactic| ((with_reducible refine' r_I ?hc ?_); (case hc => first | exact (show (_ : Int) ≠ 0 by decide) | exact ⟨by decide, by decide⟩ | exact Or.inr ⟨by decide, by decide⟩ | exact ⟨by decide, by decide, by decide⟩)))
local macro_rules | `(tactic| tb_start) => `(tactic| with_reducible refine (Or.inl ⟨_, rfl, ?_⟩ : (∃ j, [V.int _] = [V.int j] ∧ _) ∨ _))
section
variable {P : Program} {w : World} {K : PySem.W.Frag} {mg : Str → Option Value} {base : Heap} {C fI : Addr}
/-! ### _law_accepted -/
abbrev nm_law_accepted : List Str := ["_law_schema_here", "_law_code_here"]
theorem sc_law_accepted : FnScope nm_law_accepted ["_law_schema_here", "_law_code_here"] (defScope (topS 63)) := ⟨rfl, rfl, rfl, by decide +kernel, rfl, by decide +kernel, by decide +kernel⟩
def spAccepted (T : Addr) : Sp := fun vs H Q _ => ∃ (sv : V) (a : Addr) (sch : Sch) (xs : List V), vs = [sv, .ref a] ∧ SchV H sv sch ∧ H a = some (.tup xs) ∧ xs.length ≤ 100000 ∧ Items H xs ∧ TabG H T ∧
  ∀ H' k, Gr no H H' → (k = true → ∃ cs, Paired (InsV H') xs cs ∧ cs.length ≤ 400 ∧ Accepted (kinds sch) cs) → Q (.bl k) H'
theorem c_law_accepted (D : DefAt K mg "_law_accepted" 63 ["_law_schema_here", "_law_code_here"]) (B : Blt mg) {T : Addr} (Tb : PySem.BadX.BadTxt P K mg C fI) (c_judge : Cal P w K mg base (L2.CX P w) 5 "judge" ["schema", "code"] (spJudge C T)) : Cal P w K mg base CX0 6 "_law_accepted" ["_law_schema_here", "_law_code_here"] (spAccepted T) := by
  refine mk0 D sc_law_accepted (fun vs H Q E h => by obtain ⟨_, _, _, _, rfl, _⟩ := h; rfl) ?_
  rintro X Q vs H E ⟨f, cdv, A, outer, s, H0, rfl⟩ hr ⟨sv, a, sch, xs, rfl, hsch, ha, hl, hit, hT, q⟩
  refine ⟨_, (pss_cons (ps_try_only (c := .ref C) (Wout := fun _ _ _ _ => False) (tb := fun W => tDrop (tCallS (spJudge C T) (WE W) (tCons (tVar 0) (tCons (tVar 1) tNil)))) (ts := fun _ _ _ => tRet (tC (.bl false))) rfl rfl ⟨rfl, by decide, Or.inl Tb.gC⟩ takes0
      (fun W pn xe tk _ => pss_one (ps_expr (pcX c_judge hr (by decide) tk (by exact (pa_cons (pv 0) (pa_cons (pv 1) pa_nil))))))
      (fun a oe cls d pn hz hf => pss_one (ps_ret pe_bl)))
      (pss_one (ps_ret pe_bl))), ?_⟩
  walk_at "K"
  walk_at "go2"
  refine ⟨sv, a, sch, xs, rfl, hsch, ha, hl, hit, hT, fun d H' g => ?_, fun H' cs g rows l acc => ?_⟩
  · refine ⟨true, Tb.te, fun _ a0 _ => ?_, fun z => by cases z⟩
    walk_at "go2"
    exact q H' false g (fun z => by cases z)
  · walk_at "go2"
    exact q H' true g (fun _ => ⟨cs, rows, l, acc⟩)
end
end Snk
set_option Elab.async false
set_option linter.all false
set_option maxRecDepth 100000
set_option maxHeartbeats 4000000
namespace Snk
open PySem PySem.Spec PyProof.Rows L2 GxR GxT
local macro_rules | `(tactic| walk_at "K") => `(tactic| try simp only [ws_K, ws_P, ws_w, cx_K, cx_P, cx_w])
local macro_rules | `(tactic| walk_at "isi") => `(tactic| first
  | with_reducible refine r_isB (.base (.int _)) kk_int_int ?_ | with_reducible refine r_isB (.base (.int _)) kk_int_bool ?_ | with_reducible refine r_isB (.base (.int _)) kk_int_str ?_ | with_reducible refine r_isB (.base (.int _)) kk_int_tuple ?_ | with_reducible refine r_isB (.base (.bl _)) kk_bool_int ?_ | with_reducible refine r_isB (.base (.bl _)) kk_bool_bool ?_ | with_reducible refine r_isB (.base (.bl _)) kk_bool_str ?_ | with_reducible refine r_isB (.base (.bl _)) kk_bool_tuple ?_ | with_reducible refine r_isB (.base (.str _)) kk_str_int ?_ | with_reducible refine r_isB (.base (.str _)) kk_str_bool ?_ | with_reducible refine r_isB (.base (.str _)) kk_str_str ?_ | with_reducible refine r_isB (.base (.str _)) kk_str_tuple ?_ | with_reducible refine r_isB (.base .non) kk_NoneType_int ?_ | with_reducible refine r_isB (.base .non) kk_NoneType_bool ?_ | with_reducible refine r_isB (.base .non) kk_NoneType_str ?_ | with_reducible refine r_isB (.base .non) kk_NoneType_tuple ?_ | with_reducible refine r_isB (.base (.tup (by assumption))) kk_tuple_int ?_ | with_reducible refine r_isB (.base (.tup (by assumption))) kk_tuple_bool ?_ | with_reducible refine r_isB (.base (.tup (by assumption))) kk_tuple_str ?_ | with_reducible refine r_isB (.base (.tup (by assumption))) kk_tuple_tuple ?_)
local macro_rules | `(tactic| tb_rel) => `(tactic| first | assumption | exact upd_same | ((refine look_old ?hl ?hn); (case hn => assumption); (case hl => tb_rel)) | ((refine Gr.tup (by assumption) _ _ ?hl); (case hl => tb_rel)))
local macro_rules | `(tactic| tb_start) => `(tactic| first
  | ((with_reducible refine' r_var ?hvar ?_); (case hvar => exact rfl))
  | with_reducible refine r_c ?_ | with_reducible refine r_op ?_ | with_reducible refine r_un ?_ | with_reducible refine r_chain ?_ | with_reducible refine r_tup ?_ | with_reducible refine r_lst ?_ | with_reducible refine r_cons ?_ | with_reducible refine r_nil ?_ | with_reducible refine r_cb ?_ | with_reducible refine r_call ?_ | with_reducible refine r_bm ?_ | with_reducible refine r_bm0 ?_ | with_reducible refine r_sl ?_ | with_reducible refine r_test ?_ | with_reducible refine r_tb ?_ | with_reducible refine r_tand ?_ | with_reducible refine r_tor ?_ | with_reducible refine r_tnot ?_ | with_reducible refine r_andV ?_ | with_reducible refine r_orV ?_ | with_reducible refine r_notV ?_ | with_reducible refine r_ife ?_ | with_reducible refine s_seq ?_ | with_reducible refine s_nextM ?_ | with_reducible refine s_next ?_ | with_reducible refine s_ret ?_ | with_reducible refine s_if ?_ | with_reducible refine s_asg ?_ | with_reducible refine s_drop ?_ | with_reducible refine s_cont ?_ | with_reducible refine s_break ?_ | with_reducible refine g_name ?_ | with_reducible refine r_I0 ?_ | with_reducible refine r_U ?_ | with_reducible refine k_bl2 ?_ | with_reducible refine r_part ?_ | with_reducible refine r_nopart ?_ | with_reducible refine if_tt ?_ | with_reducible refine if_ff ?_ | with_reducible refine if_nf ?_ | with_reducible refine if_nt ?_
  | ((with_reducible refine' r_eq ?hsc ?_); (case hsc => exact rfl)) | ((with_reducible refine' r_ne ?hsc ?_); (case hsc => exact rfl)) | ((with_reducible refine isi_g ?_); walk_at "isi") | (first | ((with_reducible refine' r_ixT ?hix ?eix ?_); (case hix => tb_rel); (case eix => first | exact at0 | exact at1 | exact at2 | rfl))) | ((with_reducible refine' if_t ?hc ?_); (case hc => decide +kernel)) | ((with_reducible refine' if_f ?hc ?_); (case hc => decide +kernel)))
local macro_rules | `(tactic| walk_at "go") => `(tactic| repeat tb_start)
local macro_rules | `(tactic| walk_at "gr") => `(tactic| first | exact Gr.refl _ _ | assumption | ((refine Gr.trans ?ga (Gr.new ?gn)); (case gn => assumption); (case ga => walk_at "gr")) | ((refine' Gr.trans ?ga ?gb); (case gb => assumption); (case ga => walk_at "gr")))
local macro_rules | `(tactic| walk_at "go2") => `(tactic| repeat (first | tb_start | (((with_reducible refine' And.intro ?hz ?_); (case hz => (refine sz10 ?_; first | decide | (simp; done) | (simp; omega))); intro p hp)) | (first | ((with_reducible refine' r_inT ?hs ?hf ?ha ?_); (case hs => first | assumption | exact SqT.of (by tb_rel)); (case hf => rfl); (case ha => first | rfl | decide +kernel | exact flat_strs)) | ((with_reducible refine' r_niT ?hs ?hf ?ha ?_); (case hs => first | assumption | exact SqT.of (by tb_rel)); (case hf => rfl); (case ha => first | rfl | decide +kernel | exact flat_strs)))))
local macro_rules | `(tactic| tb_start) => `(tactic| with_reducible refine k_int ?_)
local macro_rules | `(tactic| tb_start) => `(tactic| ((with_reducible refine' And.intro (ty_lst ?ht) ?_); (case ht => tb_rel)))
local macro_rules | `(tactic| tb_start) => `(tactic| ((with_reducible refine' s_aug ?h1 ?_); (case h1 => exact rfl)))
local macro_rules | `(tactic| tb_start) => `(tactic| with_reducible refine r_ip ?_)
local macro_rules | `(tactic| tb_start) => `(tactic| with_reducible refine r_gsub ?_)
local macro_rules | `(tactic| tb_rel) => `(tactic| first | assumption | exact upd_same | ((with_reducible refine look_old ?hl ?hn); (case hn => assumption); (case hl => tb_rel)) | ((with_reducible refine' look_n ?h1 ?nn); (case nn => first | assumption | exact Ne.symm (by assumption)); (case h1 => tb_rel)) | ((with_reducible refine' look_t ?h1 ?h2); (case h2 => tb_rel); (case h1 => tb_rel)) | ((with_reducible refine' look_td ?h1 ?h2); (case h2 => tb_rel); (case h1 => tb_rel)) | ((with_reducible refine' look_ld ?h1 ?h2); (case h2 => tb_rel); (case h1 => tb_rel)) | ((refine Gr.tup (by assumption) _ _ ?hl); (case hl => tb_rel)))
local macro_rules | `(tactic| tb_start) => `(tactic| ((with_reducible refine' r_I ?hc ?_); (case hc => first | exact (show (_ : Int) ≠ 0 by decide) | exact ⟨by decide, by decide⟩ | exact Or.inr ⟨by decide, by decide⟩ | exact ⟨by decide, by decide, by decide⟩)))
local macro_rules | `(tactic| tb_start) => `(tactic| with_reducible refine (Or.inl ⟨_, rfl, ?_⟩ : (∃ j, [V.int _] = [V.int j] ∧ _) ∨ _))
def RecV (sch : Sch) (H : Hp) (v : V) : Prop := ∃ p ws, v = .ref p ∧ H p = some (.tup ws) ∧ FitS (kinds sch) ws
theorem RecV.gr {sch : Sch} {x : Addr → Prop} {H H' : Hp} {v : V} (g : Gr x H H') (h : RecV sch H v) : RecV sch H' v := by
  obtain ⟨p, ws, e, k, f⟩ := h
  exact ⟨p, ws, e, g.tup _ _ k, f⟩
def CodV (n : Nat) (H : Hp) (v : V) : Prop := ∃ p xs, v = .ref p ∧ H p = some (.tup xs) ∧ Items H xs ∧ xs.length ≤ n
theorem CodV.gr {n : Nat} {x : Addr → Prop} {H H' : Hp} {v : V} (g : Gr x H H') (h : CodV n H v) : CodV n H' v := by
  obtain ⟨p, xs, e, k, f, l⟩ := h
  exact ⟨p, xs, e, g.tup _ _ k, f.gr g, l⟩
theorem CodV.up {n m : Nat} {H : Hp} {v : V} (h : CodV n H v) (l : n ≤ m) : CodV m H v := by
  obtain ⟨p, xs, e, k, f, z⟩ := h
  exact ⟨p, xs, e, k, f, Nat.le_trans z l⟩
section
variable {P : Program} {w : World} {K : PySem.W.Frag} {mg : Str → Option Value} {base : Heap} {CX : CXT}
theorem FitS.len : ∀ {bs : List Bd} {vs : List V}, FitS bs vs → vs.length = bs.length
  | _, _, .nil => rfl
  | _, _, .cons _ t => congrArg (· + 1) (FitS.len t)
abbrev nm_law : List Str := ["_law_script", "_law_draws_here", "_law_schema_here", "_law_k", "_law_records", "_law_changes", "_law_code_here", "_law_tried", "_law_record_here", "_law_expected"]
theorem sc_law : FnScope nm_law ["_law_script"] (defScope (topS 64)) := ⟨rfl, rfl, rfl, by decide +kernel, rfl, by decide +kernel, by decide +kernel⟩
-- slots: 0:_law_script 1:_law_draws_here 2:_law_schema_here 3:_law_k 4:_law_records 5:_law_changes 6:_law_code_here 7:_law_tried 8:_law_record_here 9:_law_expected
def spLaw (K : PySem.W.Frag) (T : Addr) : Sp := fun vs H Q _ => ∃ (a : Addr) (ns : List Int), vs = [.ref a] ∧ SqL K H a (ns.map V.int) ∧ ns.length ≤ 100 ∧ TabG H T ∧ ∀ H', Q (.bl true) H'
theorem mk0F {x : Str} {i k : Nat} {N ps : List Str} {sp : Sp} {f : Addr} {fd : FuncData} (F : FunD K x x (defArgs (topS i)) (defBody (topS i)) (defScope (topS i)) [] [] f fd) (S : FnScope N ps (defScope (topS i))) (len : ∀ vs H Q E, sp vs H Q E → vs.length = ps.length)
    (hb : ∀ (X : Cx) (Q : VK) (vs : List V) (H : Hp) (E : XK), (∃ f cdv A outer s H0, X = (cxOf CX0 P w K mg base N x (defScope (topS i)) f cdv A outer s H0 E).nox) → Room k X.A → sp vs H Q E →
      ∃ t, PSs X (defBody (topS i)) t ∧ t { nx := fun _ H' => Q .non H', rt := Q } (start N vs) H) : FnOk P w K mg base CX0 (k + 1) f fd ps sp := by
  refine FunD.ok F S len fun cdv A outer s H vs Q E hr h => ?_
  obtain ⟨t, ht, hq⟩ := hb _ Q vs H E ⟨f, cdv, A, outer, s, H, rfl⟩ hr h
  exact ⟨t, ht.nox, hq⟩
set_option maxHeartbeats 16000000 in
theorem c_law {f : Addr} {fd : FuncData} (F : FunD K "law" "law" (defArgs (topS 64)) (defBody (topS 64)) (defScope (topS 64)) [] [] f fd) (B : Blt mg) {T : Addr}
    (c_law_draws : Cal P w K mg base CX0 1 "_law_draws" ["_law_script", "_law_start", "_law_most"] (spDraws K)) (c_law_schema : Cal P w K mg base CX0 2 "_law_schema" ["_law_draws_here"] spSchema) (c_law_record : Cal P w K mg base CX0 2 "_law_record" ["_law_schema_here", "_law_draws_here"] spRecord)
    (c_law_next : Cal P w K mg base CX0 1 "_law_next" ["_law_draws_here"] spNext) (c_law_block : cBlock P w K mg base 11 (spBlock 1)) (c_law_program : Cal P w K mg base CX0 11 "_law_program" ["_law_schema_here", "_law_draws_here", "_law_depth"] spProgram)
    (c_law_changed : Cal P w K mg base CX0 2 "_law_changed" ["_law_code_here", "_law_draws_here"] spChanged) (c_law_accepted : Cal P w K mg base CX0 6 "_law_accepted" ["_law_schema_here", "_law_code_here"] (spAccepted T)) (c_law_machine : Cal P w K mg base CX0 3 "_law_machine" ["_law_schema_here", "_law_code_here", "_law_record_here"] spMachine)
    (c_law_exact : Cal P w K mg base CX0 1 "_law_exact" ["_law_actual", "_law_expected"] spExact) (c_run : Cal P w K mg base CX0 3 "run" ["code", "record"] spRun) (c_law_valid : Cal P w K mg base CX0 1 "_law_valid" ["_law_schema_here", "_law_record_here"] spValid) : FnOk P w K mg base CX0 12 f fd ["_law_script"] (spLaw K T) := by
  refine mk0F F sc_law (fun vs H Q E h => by obtain ⟨_, _, rfl, _⟩ := h; rfl) ?_
  rintro X Q vs H E ⟨f, cdv, A, outer, s, H0, rfl⟩ hr ⟨a, ns, rfl, ha, hl, hT, q⟩
  refine ⟨_, (pss_cons (ps_set (i := 1) sc_law.nd rfl (Or.inr rfl) (pc0 c_law_draws hr (by decide) (pa_cons (pv 0) (pa_cons pe_int (pa_cons pe_int pa_nil)))))
      (pss_cons (ps_set (i := 2) sc_law.nd rfl (Or.inr rfl) (pc0 c_law_schema hr (by decide) (pa_cons (pv 1) pa_nil)))
      (pss_cons (ps_setLc (i := 4) (own := [("_law_k", 3)]) (g := gName 3) rfl sc_law.nd rfl rfl (sw_true rfl rfl rfl (by decide +kernel)) (pi_range1 rfl B.range_ (pa_cons pe_int pa_nil)) (blkOk_by (own := [("_law_k", 3)]) (N := nm_law) (sc := defScope (topS 64)) (by decide +kernel)) (fun _ _ _ _ _ => (pg_name (i := 3) sc_law.nd rfl (Or.inl rfl))) (fun _ _ _ _ _ => pts_nil) (fun _ _ _ _ _ => (pc0 c_law_record hr (by decide) (pa_cons (pv 2) (pa_cons (pv 1) pa_nil)))))
      (pss_cons (ps_set (i := 5) sc_law.nd rfl (Or.inl rfl) (pe_op op_modN (pc0 c_law_next hr (by decide) (pa_cons (pv 1) pa_nil)) pe_int))
      (pss_cons (ps_set (i := 6) sc_law.nd rfl (Or.inl rfl) (pe_callTy call_tuple_of rfl B.tuple_ (by decide +kernel) (pa_cons (pc0 c_law_block hr (by decide) (pa_cons (pv 2) (pa_cons (pc0 c_law_program hr (by decide) (pa_cons (pv 2) (pa_cons (pv 1) (pa_cons pe_int pa_nil)))) pa_nil))) pa_nil)))
      (pss_cons (ps_set (i := 7) sc_law.nd rfl (Or.inl rfl) (pe_lst (pa_cons (pv 6) pa_nil)))
      (pss_cons (ps_for PassesOwn.never rfl (pi_range1 rfl B.range_ (pa_cons (pe_op op_add (pv 5) pe_int) pa_nil)) (pg_name (i := 3) sc_law.nd rfl (Or.inl rfl)) (pss_cons (ps_set (i := 6) sc_law.nd rfl (Or.inl rfl) (pc0 c_law_changed hr (by decide) (pa_cons (pv 6) (pa_cons (pv 1) pa_nil))))
      (pss_cons (ps_expr (pe_bm PySem.F.plainAttrs_list PySem.F.slot_list_append PySem.F.type_list_append mt_append (pv 7) (pa_cons (pv 6) pa_nil)))
      (pss_one (ps_if (pt_not (pt_val (pc0 c_law_accepted hr (by decide) (pa_cons (pv 2) (pa_cons (pv 6) pa_nil))))) (pss_one (ps_set (i := 6) sc_law.nd rfl (Or.inl rfl) (pe_ix ix_list (pv 7) pe_int (fun _ _ => rfl)))) pss_nil)))))
      (pss_cons (ps_for PassesOwn.never rfl (pi_list (pv 7)) (pg_name (i := 6) sc_law.nd rfl (Or.inl rfl)) (pss_one (ps_if (pt_val (pc0 c_law_accepted hr (by decide) (pa_cons (pv 2) (pa_cons (pv 6) pa_nil)))) (pss_one (ps_for PassesOwn.never rfl (pi_list (pv 4)) (pg_name (i := 8) sc_law.nd rfl (Or.inl rfl)) (pss_cons (ps_set (i := 9) sc_law.nd rfl (Or.inl rfl) (pc0 c_law_machine hr (by decide) (pa_cons (pv 2) (pa_cons (pv 6) (pa_cons (pv 8) pa_nil)))))
      (pss_one (ps_if (PW.pt (pw_or (pt_not (pt_val (pc0 c_law_exact hr (by decide) (pa_cons (pc0 c_run hr (by decide) (pa_cons (pv 6) (pa_cons (pv 8) pa_nil))) (pa_cons (pv 9) pa_nil))))) (pw_or1 (pt_not (pt_val (pc0 c_law_valid hr (by decide) (pa_cons (pv 2) (pa_cons (pv 9) pa_nil)))))))) (pss_one (ps_ret pe_bl)) pss_nil))))) pss_nil)))
      (pss_one (ps_ret pe_bl)))))))))), ?_⟩
  walk_at "K"
  walk_at "go2"
  refine ⟨a, ns, 120, rfl, ha, hl, fun H1 dl g1 hdl0 d1 => ?_⟩
  walk_at "go2"
  refine ⟨dl, rfl, d1, fun H2 sv sch g2 d2 hsch => ?_⟩
  have t2 : TabG H2 T := TabG.gr g2 (TabG.gr g1 hT)
  walk_at "go2"
  refine r_lc (i_rng ?_)
  walk_at "go2"
  refine ⟨_, rfl, by decide, by decide, ?_⟩
  intro R hR
  have hRd : ¬ R = dl := d2.ne hR
  refine lc_range (n := 5) (fun j H' => Gr (fun b => b = dl) H2 H' ∧ DrV H' dl ∧ ∃ rs, H' R = some (.lst rs) ∧ rs.length = j ∧ ∀ r ∈ rs, RecV sch H' r)
    ⟨Gr.new hR, d2.gr (x := no) (Gr.new hR) id, [], upd_same, rfl, (fun r hr => nomatch hr)⟩ ?_ ?_
  · rintro j H' hj ⟨g, dr, rs, hrs, hrl, hrec⟩
    refine ⟨rfl, r_yes ?_⟩
    walk_at "go2"
    refine ⟨sv, dl, sch, rfl, hsch.gr g, dr, fun H3 p ws g3 d3 hp hf => ?_⟩
    have hR3 := g3.lst hrs hRd
    have gp : Gr (fun b => b = R) H3 (upd H3 R (.lst (rs ++ [.ref p]))) := Gr.put hR3 rfl
    refine ⟨rs, hR3, sz10 (by omega), Gr.own (g.trans g3) hR, d3.gr gp (fun z => hRd z.symm), rs ++ [.ref p], upd_same, by simp; omega, fun r hr => ?_⟩
    rcases List.mem_append.mp hr with z | z
    · exact ((hrec r z).gr g3).gr gp
    · rw [List.mem_singleton] at z
      rw [z]; exact ⟨p, ws, rfl, gp.tup _ _ hp, hf⟩
  · rintro H3 ⟨g3, d3, rs, hrs, hrl, hrec⟩
    have sch3 := hsch.gr g3
    have t3 := TabG.gr g3 t2
    walk_at "go2"
    refine ⟨dl, rfl, d3, fun H4 i g4 d4 => ?_⟩
    walk_at "go2"
    refine ⟨sv, dl, sch, rfl, sch3.gr g4, d4, fun H5 u g5 d5 hu => ?_⟩
    walk_at "go2"
    have g35 : Gr (fun b => b = dl) H3 H5 := g4.trans g5
    refine ⟨sv, u, sch, rfl, sch3.gr g35, hu, fun H6 p rows g6 hp hit hlen => ?_⟩
    have hlen' : rows.length ≤ 22977 := hlen
    walk_at "go2"
    refine ⟨p, rows, rfl, .inl ⟨SqL.of hp, fun c hc => ?_⟩⟩
    walk_at "go2"
    rename_i L hL
    have hLc : L ≠ c := fun z => by rw [z, upd_same] at hL; cases hL
    have hL6 : H6 L = none := free_of_upd hL
    have g36 : Gr (fun b => b = dl) H3 H6 := g35.trans g6.any
    have d6 : DrV H6 dl := d5.gr g6 id
    have gc : Gr no H6 (upd (upd H6 c (.tup rows)) L (.lst [.ref c])) := (Gr.new hc).trans (Gr.new hL)
    have hdc : ¬ dl = c := fun z => d6.ne hc z.symm
    have sch6 := sch3.gr g36
    have t6 := TabG.gr g36 t3
    have rec6 : ∀ r ∈ rs, RecV sch H6 r := fun r hr => (hrec r hr).gr g36
    have hrs6 : H6 R = some (.lst rs) := g36.lst hrs hRd
    have hRL : R ≠ L := fun z => by rw [z, hL6] at hrs6; cases hrs6
    have fm := Int.fmod_nonneg_of_pos i (b := 5) (by decide)
    have fl := Int.fmod_lt_of_pos i (b := 5) (by decide)
    refine s_for (i_rng ?_)
    walk_at "go2"
    refine ⟨_, rfl, by omega, by omega, ?_⟩
    refine for_range (fun j σ H' => Gr (fun b => b = dl) H6 H' ∧ DrV H' dl ∧ H' R = some (.lst rs) ∧ (∃ u3 cd u8 u9, σ = [some (.ref a), some (.ref dl), some sv, u3, some (.ref R), some (.int (i.fmod 5)), some cd, some (.ref L), u8, u9] ∧ CodV (22977 + j) H' cd) ∧ ∃ ls, H' L = some (.lst ls) ∧ ls.length = j + 1 ∧ ∀ v ∈ ls, CodV (22977 + j) H' v)
      ⟨gc.mono (fun _ z => nomatch z), d6.gr gc id, gc.lst hrs6 id, ⟨_, _, _, _, rfl, _, _, rfl, by rw [upd_ne hLc.symm]; exact upd_same, hit.gr gc, hlen'⟩, _, upd_same, rfl, fun v hv => by rw [List.mem_singleton] at hv; rw [hv]; exact ⟨_, _, rfl, by rw [upd_ne hLc.symm]; exact upd_same, hit.gr gc, hlen'⟩⟩ ?_ ?_
    · rintro j σ H' hj ⟨g, dr, hR', ⟨u3, cd, u8, u9, rfl, hcd⟩, ls, hL', hll, hls⟩
      have hLd : ¬ L = dl := d6.ne hL6
      obtain ⟨cp, xs, rfl, hcp, hci, hcl⟩ := hcd
      obtain ⟨l0, lr, rfl⟩ : ∃ l0 lr, ls = l0 :: lr := by
        cases ls with
        | nil => simp at hll
        | cons x y => exact ⟨x, y, rfl⟩
      walk_at "go2"
      refine ⟨cp, dl, xs, rfl, hcp, by omega, hci, dr, fun H7 q ys g7 d7 hq hy hyl => ?_⟩
      have hL7 := g7.lst hL' hLd
      walk_at "go2"
      refine r_app hL7 (by simp at hll ⊢; omega) ?_
      have gp : Gr (fun b => b = L) H7 (upd H7 L (.lst (l0 :: lr ++ [.ref q]))) := Gr.put hL7 rfl
      have go : Gr (fun b => b = dl) H6 (upd H7 L (.lst (l0 :: lr ++ [.ref q]))) := Gr.own (g.trans g7) hL6
      have d8 := d7.gr gp (fun z => hLd z.symm)
      have hR8 := gp.lst (g7.lst hR' hRd) hRL
      have hls8 : ∀ v ∈ l0 :: lr ++ [.ref q], CodV (22977 + (j + 1)) (upd H7 L (.lst (l0 :: lr ++ [.ref q]))) v := fun v hv => by
        rcases List.mem_append.mp hv with z | z
        · exact (((hls v z).gr g7).gr gp).up (by omega)
        · rw [List.mem_singleton] at z
          rw [z]; exact ⟨q, ys, rfl, gp.tup _ _ hq, hy.gr gp, by omega⟩
      walk_at "go2"
      refine ⟨sv, q, sch, ys, rfl, sch6.gr go, gp.tup _ _ hq, by omega, hy.gr gp, TabG.gr go t6, fun H9 k g9 hk => ?_⟩
      have inv : ∀ v, CodV (22977 + (j + 1)) (upd H7 L (.lst (l0 :: lr ++ [.ref q]))) v → Gr (fun b => b = dl) H6 H9 ∧ DrV H9 dl ∧ H9 R = some (.lst rs) ∧ CodV (22977 + (j + 1)) H9 v ∧ ∃ ls, H9 L = some (.lst ls) ∧ ls.length = j + 1 + 1 ∧ ∀ v ∈ ls, CodV (22977 + (j + 1)) H9 v := fun v hv =>
        ⟨go.trans g9.any, d8.gr g9 id, g9.lst hR8 id, hv.gr g9, _, g9.lst upd_same id, by simp at hll ⊢; omega, fun v hv => (hls8 v hv).gr g9⟩
      walk_at "go2"
      refine if_nb (fun c1 => ?_) (fun c1 => ?_)
      · walk_at "go2"
        refine r_ixL (g9.lst upd_same id) at0 ?_
        walk_at "go2"
        obtain ⟨x1, x2, x3, x4, x5⟩ := inv l0 (hls8 l0 (by simp))
        exact ⟨x1, x2, x3, ⟨_, _, _, _, rfl, x4⟩, x5⟩
      · walk_at "go2"
        obtain ⟨x1, x2, x3, x4, x5⟩ := inv (.ref q) (hls8 _ (by simp))
        exact ⟨x1, x2, x3, ⟨_, _, _, _, rfl, x4⟩, x5⟩
    · rintro σ H' ⟨g, dr, hR', ⟨u3, cd, u8, u9, rfl, hcd⟩, ls, hL', hll, hls⟩
      have hjm : (i.fmod 5 + 8).toNat ≤ 12 := by omega
      walk_at "go2"
      refine s_for (i_lst ?_)
      walk_at "go2"
      refine ⟨L, rfl, ⟨_, SqL.of hL'⟩, ?_⟩
      refine for_list (K := K) (a := L) (xs := ls) (fun n σ H'' => Gr no H' H'' ∧ ∃ u3 u6 u8 u9, σ = [some (.ref a), some (.ref dl), some sv, u3, some (.ref R), some (.int (i.fmod 5)), u6, some (.ref L), u8, u9])
        ⟨Gr.refl _ _, _, _, _, _, rfl⟩ (fun n σ H'' _ p => SqL.of (p.1.lst hL' id)) ?_ ?_
      · rintro n y σ H'' hy ⟨g10, u3, u6, u8, u9, rfl⟩
        obtain ⟨cp, xs, rfl, hcp, hci, hcl⟩ := (hls y (List.mem_of_getElem? hy)).gr g10
        have g06 : Gr (fun b => b = dl) H6 H'' := g.trans g10.any
        walk_at "go2"
        refine ⟨sv, cp, sch, xs, rfl, sch6.gr g06, hcp, by omega, hci, TabG.gr g06 t6, fun H9 k g9 hk => ?_⟩
        have g09 : Gr (fun b => b = dl) H6 H9 := g06.trans g9.any
        have hR9 : H9 R = some (.lst rs) := g9.lst (g10.lst hR' id) id
        have g9' : Gr no H' H9 := g10.trans g9
        have hcp9 := g9.tup _ _ hcp
        walk_at "go2"
        refine if_b (fun c1 => ?_) (fun c1 => ?_)
        · obtain ⟨cs, hcs, hcl4, acc⟩ := hk c1
          walk_at "go2"
          refine s_for (i_lst ?_)
          walk_at "go2"
          refine ⟨R, rfl, ⟨_, SqL.of hR9⟩, ?_⟩
          refine for_list (K := K) (a := R) (xs := rs) (fun n σ H'' => Gr no H9 H'' ∧ ∃ u3 u8 u9, σ = [some (.ref a), some (.ref dl), some sv, u3, some (.ref R), some (.int (i.fmod 5)), some (.ref cp), some (.ref L), u8, u9])
            ⟨Gr.refl _ _, _, _, _, rfl⟩ (fun n σ H'' _ p => SqL.of (p.1.lst hR9 id)) ?_ ?_
          · rintro n y σ H'' hy ⟨g11, u3, u8, u9, rfl⟩
            have g0 : Gr (fun b => b = dl) H6 H'' := g09.trans g11.any
            obtain ⟨rp, vs, rfl, hrp, hfit⟩ := (rec6 y (List.mem_of_getElem? hy)).gr g0
            have sch11 := sch6.gr g0
            obtain ⟨qs, hrun, hfq⟩ := acc.run hfit
            have hcs11 := insV_gr g11 hcs
            have hcp11 := g11.tup _ _ hcp9
            have hk8 : (kinds sch).length ≤ 8 := by
              obtain ⟨_, _, _, _, _, _, _, h8⟩ := sch11
              simpa [kinds] using h8
            have hkl : vs.length ≤ 100 := by have := FitS.len hfit; omega
            have hql : qs.length ≤ 1000 := by have := FitS.len hfq; omega
            have aok : AllOk (kinds sch) := by
              obtain ⟨_, _, _, _, _, hk, _, _⟩ := sch11
              intro b hb
              obtain ⟨f, hf, rfl⟩ := List.mem_map.mp hb
              exact (hk f hf).ok
            walk_at "go2"
            refine ⟨sv, cp, rp, xs, vs, qs, cs, rfl, hcp11, hcs11, acc.ok, hcl4, hrp, hkl, hrun, fun H12 mp g12 hmp => ?_⟩
            walk_at "go2"
            refine ⟨cp, rp, xs, vs, qs, cs, rfl, g12.tup _ _ hcp11, insV_gr g12 hcs11, acc.ok, hcl4, g12.tup _ _ hrp, hkl, hrun, fun H13 rp2 g13 hrp2 => ?_⟩
            walk_at "go2"
            refine ⟨rp2, mp, qs, rfl, hrp2, g13.tup _ _ hmp, flats_of aok hfq, hql, ?_⟩
            walk_at "go2"
            refine ⟨sv, mp, sch, qs, rfl, (sch11.gr g12).gr g13, g13.tup _ _ hmp, hfq, ?_⟩
            walk_at "go2"
            exact ⟨(g11.trans g12).trans g13, _, _, _, rfl⟩
          · rintro σ H'' ⟨g11, u3, u8, u9, rfl⟩
            walk_at "go2"
            exact ⟨g9'.trans g11, _, _, _, _, rfl⟩
        · walk_at "go2"
          exact ⟨g9', _, _, _, _, rfl⟩
      · rintro σ H'' ⟨g10, u3, u6, u8, u9, rfl⟩
        walk_at "go2"
        exact q _
end
end Snk
set_option Elab.async false
set_option linter.all false
set_option maxRecDepth 100000
set_option maxHeartbeats 0
namespace Snk
open PySem PySem.Spec PyProof.Rows L2
/-! ### the facts, in the words of the walks -/
section
variable {K : PySem.W.Frag} {h : Heap} {mg : Str → Option Value} {w : World}
theorem clsB_ok {P : Program} (c : clsB K = true) : ∃ nm q N bs bm sn sub ab col dd k0 k1 k2 k3 k5, K.lookup (aC K) = some (PySem.excClassObj nm q (aC K) N bs bm true sn sub ab col dd k0 k1 k2 k3 k5 "ValueError.__new__") ∧ PySem.HandSPX.refsVE bm = true ∧ PySem.W.alongIn K "__init__" bm = some (some (.builtin "ValueError.__init__")) := by
  unfold clsB at c
  split at c
  · rename_i cn dd cd sl ho
    obtain ⟨c1, c2⟩ := He.ba c
    obtain ⟨c3, c4⟩ := He.ba c2
    obtain ⟨c5, c6⟩ := He.ba c4
    obtain ⟨c7, c8⟩ := He.ba c6
    have e1 : cn = "type" := of_decide_eq_true c1
    obtain ⟨nm, bs, mro, ns, qn, hd, sn, sub, ab, col, del⟩ := cd
    dsimp only at c3 c7 c8
    split at c3
    · rename_i C' bm
      obtain ⟨d1, d2⟩ := He.ba c3
      obtain ⟨d3, d4⟩ := He.ba d2
      have e2 := of_decide_eq_true d1
      split at c5
      · rename_i k0 k1 k2 k3 n k5 hs
        have e3 : n = "ValueError.__new__" := of_decide_eq_true c5
        have hsl : sl = #[k0, k1, k2, k3, some (.builtin n), k5] := by
          obtain ⟨l⟩ := sl
          exact congrArg Array.mk hs
        cases del with
        | true => cases c7
        | false =>
          subst e1 e3 hsl
          cases hd with
          | false => cases c8
          | true => exact ⟨nm, qn, ns, bs, bm, sn, sub, ab, col, dd, k0, k1, k2, k3, k5, by rw [ho, e2], d3, He.eqO_ok d4⟩
      · cases c5
    · cases c3
  · cases c
theorem cel_ok {cc : Addr} (c : celB K cc = true) : ∃ (cl : Value) (cld : Option Addr) (csl : Array (Option Value)), K.lookup cc = some ⟨cl, cld, .cell (some (.ref (aC K))), csl⟩ := by
  unfold celB at c
  split at c
  · rename_i cl cld C' csl ho
    have e : C' = aC K := of_decide_eq_true c
    rw [e] at ho
    exact ⟨cl, cld, csl, ho⟩
  · cases c
theorem cod_ok {file : Str} {cda : Addr} (c : codB file K cda = true) : PySem.W.codeIn K (.ref cda) "BadCode.__init__" = true ∧ ∃ (ccl : Value) (cdd : Option Addr) (vs : Array Value) (ccs : Array (Option Value)) (f : Str) (tf : Tok), K.lookup cda = some ⟨ccl, cdd, .fields vs, ccs⟩ ∧ vs[2]? = some (.str f tf) ∧ (file == f) = true := by
  obtain ⟨c1, c2⟩ := He.ba c
  refine ⟨c1, ?_⟩
  split at c2
  · rename_i ccl cdd vs ccs ho
    split at c2
    · rename_i f tf hv
      exact ⟨ccl, cdd, vs, ccs, f, tf, ho, hv, c2⟩
    · cases c2
  · cases c2
theorem ini_ok {file : Str} (c : iniB file K = true) (e : iniO K = iniE) : ∃ (oc : Value) (od : Option Addr) (kV doc pm : Value) (an : Option Addr) (cda cc : Addr) (ct : Value) (osl : Array (Option Value)),
    K.lookup (aI K) = some ⟨oc, od, .func (PySem.W.ksFn "__init__" "BadCode.__init__" PySem.BadX.iA PySem.BadX.iB PySem.BadX.iS .none kV doc pm an (.ref cda) ct cc), osl⟩ ∧ codB file K cda = true ∧ celB K cc = true := by
  unfold iniB at c
  unfold iniO at e
  cases lk : K.lookup (aI K) with
  | none => rw [lk] at c; cases c
  | some ob =>
    obtain ⟨oc, od, dt, osl⟩ := ob
    rw [lk] at c e
    cases dt with
    | func fd =>
      obtain ⟨f1, f2, f3, f4, f5, f6, f7, f8, f9, f10, f11, f12, f13, f14, f15⟩ := fd
      dsimp only at c e
      have e2 : (some (f1, f2, f3, f4, f5, f6, f7.map (·.1), f15) : IniV) = iniE := e
      unfold iniE at e2
      simp only [Option.some.injEq, Prod.mk.injEq] at e2
      obtain ⟨g1, g2, g3, g4, g5, g6, g7, g8⟩ := e2
      subst g1 g2 g3 g4 g5 g6 g8
      obtain ⟨c1, c2⟩ := He.ba c
      obtain ⟨c3, c4⟩ := He.ba c2
      split at c1
      · rename_i n cc
        have g9 : n = "__class__" := by
          have z : [n] = [("__class__" : Str)] := g7
          exact List.head_eq_of_cons_eq z
        subst g9
        split at c3
        · rename_i cda
          split at c4
          · exact ⟨oc, od, f9, f10, f11, f12, cda, cc, f14, osl, rfl, c3, c1⟩
          · cases c4
        · cases c3
      · cases c1
    | _ => cases c
theorem badTxt {P : Program} (hP : RR.prog = P) (X : K.In h) (G : h.Ns mainGlobals mg) (c : SaysY w h K) (gC : mg "BadCode" = some (.ref (aC K))) (su : mg "super" = none) : PySem.BadX.BadTxt P K mg (aC K) (aI K) := by
  subst hP
  have m : (He.tupB K "PAIRS" pairsD && (clsB K && (lokB K && iniB RR.prog.main.file K))) = true := c.x.more
  obtain ⟨_, m1⟩ := He.ba m
  obtain ⟨m2, m3⟩ := He.ba m1
  obtain ⟨m4, m5⟩ := He.ba m3
  obtain ⟨oc, od, kV, doc, pm, an, cda, cc, ct, osl, lk, n1, n2⟩ := ini_ok m5 c.ini
  obtain ⟨n3, n4⟩ := cod_ok n1
  obtain ⟨l1, m4⟩ := He.ba m4
  obtain ⟨l2, m4⟩ := He.ba m4
  obtain ⟨l3, m4⟩ := He.ba m4
  obtain ⟨l4, m4⟩ := He.ba m4
  obtain ⟨l5, m4⟩ := He.ba m4
  obtain ⟨l6, m4⟩ := He.ba m4
  obtain ⟨l7, m4⟩ := He.ba m4
  obtain ⟨l8, m4⟩ := He.ba m4
  obtain ⟨l9, m4⟩ := He.ba m4
  obtain ⟨l10, l11⟩ := He.ba m4
  exact {
    gC := gC
    cls := clsB_ok (P := RR.prog) m2
    sa := He.eqO_ok l1
    noI := He.eqO_ok l2
    noR := He.eqO_ok l3
    iC := He.eqO_ok l4
    tC := of_decide_eq_true l5
    kC := l6
    exC := of_decide_eq_true l7
    veC := of_decide_eq_true l8
    tyC := of_decide_eq_true l9
    te := of_decide_eq_true l10
    opq := He.eqO_ok l11
    sup := su
    top := by decide +kernel
    fn := ⟨oc, od, kV, doc, pm, an, cda, cc, ct, osl, lk, n3, n4, cel_ok n2⟩ }
theorem mkAt {x : Str} {i : Nat} {ps : List Str} (X : K.In h) (G : h.Ns mainGlobals mg) (c : He.SaysD faL fnL K) (j : Nat) (hd : fnL[j]? = some ⟨(x, none), x, x, defArgs (topS i), defBody (topS i), defScope (topS i), [], []⟩)
    (hf : faL[j]? = some (.glo x)) (hb : ∀ (kV doc pm : Value) (an : Option Addr) (cdv ct : Value) (us : List Value), us.length = ps.length → bindArgs (PySem.W.fnOf x x (defArgs (topS i)) (defBody (topS i)) (defScope (topS i)) .none kV doc pm an cdv ct) ⟨us, []⟩ = pure (ps.zip us)) : DefAt K mg x i ps := by
  obtain ⟨fd, F⟩ := c.def_ j hd
  exact ⟨He.ga K x, fd, F, He.glo_ok X G (c.fact j hf), F.bindsN hb⟩
theorem mkCT {x : Str} {i : Nat} {ps : List Str} (X : K.In h) (G : h.Ns mainGlobals mg) (c : He.SaysD faL fnL K) (j : Nat) (hd : fnL[j]? = some ⟨(x, none), x, x, defArgs (topS i), defBody (topS i), defScope (topS i), [], []⟩)
    (hf : faL[j]? = some (.glo x)) (hb : ∀ (kV doc pm : Value) (an : Option Addr) (cdv ct : Value) (us : List Value), us.length = ps.length → bindArgs (PySem.W.fnOf x x (defArgs (topS i)) (defBody (topS i)) (defScope (topS i)) .none kV doc pm an cdv ct) ⟨us, []⟩ = pure (ps.zip us)) :
    DefC K mg x i ps (He.cT K (x, none)).1 := by
  obtain ⟨fd, F⟩ := c.def_ j hd
  have b := F.bindsN hb
  obtain ⟨oc, od, dV, kV, doc, pm, an, cdv, ct, osl, rfl, lk, hcd, _, _⟩ := F.ex
  obtain ⟨cc, rfl⟩ := He.codeIn_ref hcd
  have e : (He.cT K (x, none)).1 = cc := He.codeOf_eq (p := (x, none)) lk rfl
  rw [e]
  exact ⟨He.ga K x, oc, od, dV, kV, doc, pm, an, ct, osl, lk, hcd, He.glo_ok X G (c.fact j hf), F.kp, b⟩
theorem blt_of (X : K.In h) (G : h.Ns mainGlobals mg) (c : He.SaysD faL fnL K) : Blt mg := by
  have f : ∀ (j : Nat) (x : Str), faL[j]? = some (.free x) → mg x = none := fun j x e => He.free_ok X G (c.fact j e)
  exact ⟨f 57 _ rfl, f 58 _ rfl, f 59 _ rfl, f 60 _ rfl, f 61 _ rfl, f 62 _ rfl, f 63 _ rfl, f 64 _ rfl, f 65 _ rfl, f 66 _ rfl, f 67 _ rfl, f 68 _ rfl, f 69 _ rfl, f 70 _ rfl, f 71 _ rfl, f 72 _ rfl⟩
theorem glo_of (X : K.In h) (G : h.Ns mainGlobals mg) (c : SaysY w h K) : Glo K mg := by
  have f : ∀ (j : Nat) (x : Str) (i : Int), faL[j]? = some (.int x i) → ∃ t, mg x = some (.int i t) := fun j x i e => He.int_ok X G (c.x.t.d.fact j e)
  have m : (He.tupB K "PAIRS" pairsD && (clsB K && (lokB K && iniB RR.prog.main.file K))) = true := c.x.more
  exact ⟨f 52 _ _ rfl, f 53 _ _ rfl, f 54 _ _ rfl, f 55 _ _ rfl, f 56 _ _ rfl, He.ga K "PAIRS", He.glo_ok X G (c.x.t.d.fact 51 (f := .glo "PAIRS") rfl), fun H => He.tupB_ok (He.ba m).1 H⟩
end

/-! ### the chain of the promises -/
section
variable {P : Program} {w : World} {K : PySem.W.Frag} {h base : Heap} {mg : Str → Option Value}
theorem a_is_integer (X : K.In h) (G : h.Ns mainGlobals mg) (c : He.SaysD faL fnL K) : DefAt K mg "is_integer" 7 ["value", "least", "greatest"] := mkAt X G c 0 rfl rfl (fun _ _ _ _ _ _ us hl => match us, hl with | [_, _, _], _ => rfl)
theorem a_is_printable (X : K.In h) (G : h.Ns mainGlobals mg) (c : He.SaysD faL fnL K) : DefAt K mg "is_printable" 8 ["value"] := mkAt X G c 1 rfl rfl (fun _ _ _ _ _ _ us hl => match us, hl with | [_], _ => rfl)
theorem a_is_word (X : K.In h) (G : h.Ns mainGlobals mg) (c : He.SaysD faL fnL K) : DefAt K mg "is_word" 9 ["value"] := mkAt X G c 2 rfl rfl (fun _ _ _ _ _ _ us hl => match us, hl with | [_], _ => rfl)
theorem a_kind_bounds (X : K.In h) (G : h.Ns mainGlobals mg) (c : He.SaysD faL fnL K) : DefAt K mg "kind_bounds" 12 ["kind"] := mkAt X G c 3 rfl rfl (fun _ _ _ _ _ _ us hl => match us, hl with | [_], _ => rfl)
theorem a_literal_bounds (X : K.In h) (G : h.Ns mainGlobals mg) (c : He.SaysD faL fnL K) : DefAt K mg "literal_bounds" 13 ["head", "value"] := mkAt X G c 4 rfl rfl (fun _ _ _ _ _ _ us hl => match us, hl with | [_, _], _ => rfl)
theorem a_union (X : K.In h) (G : h.Ns mainGlobals mg) (c : He.SaysD faL fnL K) : DefAt K mg "union" 14 ["a", "b"] := mkAt X G c 5 rfl rfl (fun _ _ _ _ _ _ us hl => match us, hl with | [_, _], _ => rfl)
theorem a_pair_kinds (X : K.In h) (G : h.Ns mainGlobals mg) (c : He.SaysD faL fnL K) : DefAt K mg "pair_kinds" 15 ["head", "a", "b"] := mkAt X G c 6 rfl rfl (fun _ _ _ _ _ _ us hl => match us, hl with | [_, _, _], _ => rfl)
theorem a_pair_bounds (X : K.In h) (G : h.Ns mainGlobals mg) (c : He.SaysD faL fnL K) : DefAt K mg "pair_bounds" 16 ["head", "a", "b"] := mkAt X G c 7 rfl rfl (fun _ _ _ _ _ _ us hl => match us, hl with | [_, _, _], _ => rfl)
theorem a_single_kind (X : K.In h) (G : h.Ns mainGlobals mg) (c : He.SaysD faL fnL K) : DefAt K mg "single_kind" 17 ["head"] := mkAt X G c 8 rfl rfl (fun _ _ _ _ _ _ us hl => match us, hl with | [_], _ => rfl)
theorem a_single_bounds (X : K.In h) (G : h.Ns mainGlobals mg) (c : He.SaysD faL fnL K) : DefAt K mg "single_bounds" 18 ["head", "a", "n"] := mkAt X G c 9 rfl rfl (fun _ _ _ _ _ _ us hl => match us, hl with | [_, _, _], _ => rfl)
theorem a_is_large (X : K.In h) (G : h.Ns mainGlobals mg) (c : He.SaysD faL fnL K) : DefAt K mg "is_large" 19 ["bounds"] := mkAt X G c 10 rfl rfl (fun _ _ _ _ _ _ us hl => match us, hl with | [_], _ => rfl)
theorem a_within (X : K.In h) (G : h.Ns mainGlobals mg) (c : He.SaysD faL fnL K) : DefC K mg "within" 20 ["kind", "bounds"] (He.cT K ("within", none)).1 := mkCT X G c 11 rfl rfl (fun _ _ _ _ _ _ us hl => match us, hl with | [_, _], _ => rfl)
theorem a_combine (X : K.In h) (G : h.Ns mainGlobals mg) (c : He.SaysD faL fnL K) : DefAt K mg "combine" 22 ["head", "a", "b"] := mkAt X G c 12 rfl rfl (fun _ _ _ _ _ _ us hl => match us, hl with | [_, _, _], _ => rfl)
theorem a_alter (X : K.In h) (G : h.Ns mainGlobals mg) (c : He.SaysD faL fnL K) : DefAt K mg "alter" 23 ["head", "a", "n"] := mkAt X G c 13 rfl rfl (fun _ _ _ _ _ _ us hl => match us, hl with | [_, _, _], _ => rfl)
theorem a_is_constant (X : K.In h) (G : h.Ns mainGlobals mg) (c : He.SaysD faL fnL K) : DefAt K mg "is_constant" 27 ["value"] := mkAt X G c 14 rfl rfl (fun _ _ _ _ _ _ us hl => match us, hl with | [_], _ => rfl)
theorem a_is_instruction (X : K.In h) (G : h.Ns mainGlobals mg) (c : He.SaysD faL fnL K) : DefAt K mg "is_instruction" 28 ["value"] := mkAt X G c 15 rfl rfl (fun _ _ _ _ _ _ us hl => match us, hl with | [_], _ => rfl)
theorem a_step (X : K.In h) (G : h.Ns mainGlobals mg) (c : He.SaysD faL fnL K) : DefAt K mg "step" 29 ["instruction", "stack", "values"] := mkAt X G c 16 rfl rfl (fun _ _ _ _ _ _ us hl => match us, hl with | [_, _, _], _ => rfl)
theorem a_run (X : K.In h) (G : h.Ns mainGlobals mg) (c : He.SaysD faL fnL K) : DefAt K mg "run" 30 ["code", "record"] := mkAt X G c 17 rfl rfl (fun _ _ _ _ _ _ us hl => match us, hl with | [_, _], _ => rfl)
theorem a_check_form (X : K.In h) (G : h.Ns mainGlobals mg) (c : He.SaysD faL fnL K) : DefAt K mg "check_form" 32 ["code"] := mkAt X G c 18 rfl rfl (fun _ _ _ _ _ _ us hl => match us, hl with | [_], _ => rfl)
theorem a_constant_bounds (X : K.In h) (G : h.Ns mainGlobals mg) (c : He.SaysD faL fnL K) : DefAt K mg "constant_bounds" 33 ["value"] := mkAt X G c 19 rfl rfl (fun _ _ _ _ _ _ us hl => match us, hl with | [_], _ => rfl)
theorem a_merged (X : K.In h) (G : h.Ns mainGlobals mg) (c : He.SaysD faL fnL K) : DefAt K mg "merged" 34 ["states", "at"] := mkAt X G c 20 rfl rfl (fun _ _ _ _ _ _ us hl => match us, hl with | [_, _], _ => rfl)
theorem a_needed (X : K.In h) (G : h.Ns mainGlobals mg) (c : He.SaysD faL fnL K) : DefAt K mg "needed" 35 ["head"] := mkAt X G c 21 rfl rfl (fun _ _ _ _ _ _ us hl => match us, hl with | [_], _ => rfl)
theorem a_result (X : K.In h) (G : h.Ns mainGlobals mg) (c : He.SaysD faL fnL K) : DefAt K mg "result" 36 ["head", "instruction", "taken", "at"] := mkAt X G c 22 rfl rfl (fun _ _ _ _ _ _ us hl => match us, hl with | [_, _, _, _], _ => rfl)
theorem a_after (X : K.In h) (G : h.Ns mainGlobals mg) (c : He.SaysD faL fnL K) : DefAt K mg "after" 37 ["schema", "instruction", "state", "at"] := mkAt X G c 23 rfl rfl (fun _ _ _ _ _ _ us hl => match us, hl with | [_, _, _, _], _ => rfl)
theorem a_judge (X : K.In h) (G : h.Ns mainGlobals mg) (c : He.SaysD faL fnL K) : DefAt K mg "judge" 38 ["schema", "code"] := mkAt X G c 24 rfl rfl (fun _ _ _ _ _ _ us hl => match us, hl with | [_, _], _ => rfl)
theorem a_L_cell (X : K.In h) (G : h.Ns mainGlobals mg) (c : He.SaysD faL fnL K) : DefAt K mg "_law_cell" 40 ["_law_script", "_law_k"] := mkAt X G c 25 rfl rfl (fun _ _ _ _ _ _ us hl => match us, hl with | [_, _], _ => rfl)
theorem a_L_draws (X : K.In h) (G : h.Ns mainGlobals mg) (c : He.SaysD faL fnL K) : DefAt K mg "_law_draws" 41 ["_law_script", "_law_start", "_law_most"] := mkAt X G c 26 rfl rfl (fun _ _ _ _ _ _ us hl => match us, hl with | [_, _, _], _ => rfl)
theorem a_L_next (X : K.In h) (G : h.Ns mainGlobals mg) (c : He.SaysD faL fnL K) : DefAt K mg "_law_next" 42 ["_law_draws_here"] := mkAt X G c 27 rfl rfl (fun _ _ _ _ _ _ us hl => match us, hl with | [_], _ => rfl)
theorem a_L_kind (X : K.In h) (G : h.Ns mainGlobals mg) (c : He.SaysD faL fnL K) : DefAt K mg "_law_kind" 43 ["_law_draw"] := mkAt X G c 28 rfl rfl (fun _ _ _ _ _ _ us hl => match us, hl with | [_], _ => rfl)
theorem a_L_schema (X : K.In h) (G : h.Ns mainGlobals mg) (c : He.SaysD faL fnL K) : DefAt K mg "_law_schema" 44 ["_law_draws_here"] := mkAt X G c 29 rfl rfl (fun _ _ _ _ _ _ us hl => match us, hl with | [_], _ => rfl)
theorem a_L_value (X : K.In h) (G : h.Ns mainGlobals mg) (c : He.SaysD faL fnL K) : DefAt K mg "_law_value" 45 ["_law_kind_here", "_law_draw"] := mkAt X G c 30 rfl rfl (fun _ _ _ _ _ _ us hl => match us, hl with | [_, _], _ => rfl)
theorem a_L_record (X : K.In h) (G : h.Ns mainGlobals mg) (c : He.SaysD faL fnL K) : DefAt K mg "_law_record" 46 ["_law_schema_here", "_law_draws_here"] := mkAt X G c 31 rfl rfl (fun _ _ _ _ _ _ us hl => match us, hl with | [_, _], _ => rfl)
theorem a_L_leaf (X : K.In h) (G : h.Ns mainGlobals mg) (c : He.SaysD faL fnL K) : DefAt K mg "_law_leaf" 47 ["_law_schema_here", "_law_head", "_law_draw"] := mkAt X G c 32 rfl rfl (fun _ _ _ _ _ _ us hl => match us, hl with | [_, _, _], _ => rfl)
theorem a_L_expression (X : K.In h) (G : h.Ns mainGlobals mg) (c : He.SaysD faL fnL K) : DefAt K mg "_law_expression" 48 ["_law_schema_here", "_law_head", "_law_draws_here", "_law_depth"] := mkAt X G c 33 rfl rfl (fun _ _ _ _ _ _ us hl => match us, hl with | [_, _, _, _], _ => rfl)
theorem a_L_set (X : K.In h) (G : h.Ns mainGlobals mg) (c : He.SaysD faL fnL K) : DefAt K mg "_law_set" 49 ["_law_schema_here", "_law_draws_here", "_law_depth"] := mkAt X G c 34 rfl rfl (fun _ _ _ _ _ _ us hl => match us, hl with | [_, _, _], _ => rfl)
theorem a_L_made (X : K.In h) (G : h.Ns mainGlobals mg) (c : He.SaysD faL fnL K) : DefAt K mg "_law_made" 50 ["_law_schema_here", "_law_draws_here", "_law_depth"] := mkAt X G c 35 rfl rfl (fun _ _ _ _ _ _ us hl => match us, hl with | [_, _, _], _ => rfl)
theorem a_L_nodes (X : K.In h) (G : h.Ns mainGlobals mg) (c : He.SaysD faL fnL K) : DefAt K mg "_law_nodes" 51 ["_law_e"] := mkAt X G c 36 rfl rfl (fun _ _ _ _ _ _ us hl => match us, hl with | [_], _ => rfl)
theorem a_L_size (X : K.In h) (G : h.Ns mainGlobals mg) (c : He.SaysD faL fnL K) : DefAt K mg "_law_size" 52 ["_law_program_here"] := mkAt X G c 37 rfl rfl (fun _ _ _ _ _ _ us hl => match us, hl with | [_], _ => rfl)
theorem a_L_program (X : K.In h) (G : h.Ns mainGlobals mg) (c : He.SaysD faL fnL K) : DefAt K mg "_law_program" 53 ["_law_schema_here", "_law_draws_here", "_law_depth"] := mkAt X G c 38 rfl rfl (fun _ _ _ _ _ _ us hl => match us, hl with | [_, _, _], _ => rfl)
theorem a_L_at (X : K.In h) (G : h.Ns mainGlobals mg) (c : He.SaysD faL fnL K) : DefAt K mg "_law_at" 54 ["_law_schema_here", "_law_name"] := mkAt X G c 39 rfl rfl (fun _ _ _ _ _ _ us hl => match us, hl with | [_, _], _ => rfl)
theorem a_L_code (X : K.In h) (G : h.Ns mainGlobals mg) (c : He.SaysD faL fnL K) : DefAt K mg "_law_code" 55 ["_law_schema_here", "_law_e"] := mkAt X G c 40 rfl rfl (fun _ _ _ _ _ _ us hl => match us, hl with | [_, _], _ => rfl)
theorem a_L_block (X : K.In h) (G : h.Ns mainGlobals mg) (c : He.SaysD faL fnL K) : DefAt K mg "_law_block" 56 ["_law_schema_here", "_law_program_here"] := mkAt X G c 41 rfl rfl (fun _ _ _ _ _ _ us hl => match us, hl with | [_, _], _ => rfl)
theorem a_L_eval (X : K.In h) (G : h.Ns mainGlobals mg) (c : He.SaysD faL fnL K) : DefAt K mg "_law_eval" 57 ["_law_schema_here", "_law_e", "_law_record_here"] := mkAt X G c 42 rfl rfl (fun _ _ _ _ _ _ us hl => match us, hl with | [_, _, _], _ => rfl)
theorem a_L_exact (X : K.In h) (G : h.Ns mainGlobals mg) (c : He.SaysD faL fnL K) : DefAt K mg "_law_exact" 58 ["_law_actual", "_law_expected"] := mkAt X G c 43 rfl rfl (fun _ _ _ _ _ _ us hl => match us, hl with | [_, _], _ => rfl)
theorem a_L_instruction (X : K.In h) (G : h.Ns mainGlobals mg) (c : He.SaysD faL fnL K) : DefAt K mg "_law_instruction" 59 ["_law_draw"] := mkAt X G c 44 rfl rfl (fun _ _ _ _ _ _ us hl => match us, hl with | [_], _ => rfl)
theorem a_L_changed (X : K.In h) (G : h.Ns mainGlobals mg) (c : He.SaysD faL fnL K) : DefAt K mg "_law_changed" 60 ["_law_code_here", "_law_draws_here"] := mkAt X G c 45 rfl rfl (fun _ _ _ _ _ _ us hl => match us, hl with | [_, _], _ => rfl)
theorem a_L_machine (X : K.In h) (G : h.Ns mainGlobals mg) (c : He.SaysD faL fnL K) : DefAt K mg "_law_machine" 61 ["_law_schema_here", "_law_code_here", "_law_record_here"] := mkAt X G c 46 rfl rfl (fun _ _ _ _ _ _ us hl => match us, hl with | [_, _, _], _ => rfl)
theorem a_L_valid (X : K.In h) (G : h.Ns mainGlobals mg) (c : He.SaysD faL fnL K) : DefAt K mg "_law_valid" 62 ["_law_schema_here", "_law_record_here"] := mkAt X G c 47 rfl rfl (fun _ _ _ _ _ _ us hl => match us, hl with | [_, _], _ => rfl)
theorem a_L_accepted (X : K.In h) (G : h.Ns mainGlobals mg) (c : He.SaysD faL fnL K) : DefAt K mg "_law_accepted" 63 ["_law_schema_here", "_law_code_here"] := mkAt X G c 48 rfl rfl (fun _ _ _ _ _ _ us hl => match us, hl with | [_, _], _ => rfl)
theorem a_law (X : K.In h) (G : h.Ns mainGlobals mg) (c : He.SaysD faL fnL K) : DefAt K mg "law" 64 ["_law_script"] := mkAt X G c 49 rfl rfl (fun _ _ _ _ _ _ us hl => match us, hl with | [_], _ => rfl)
theorem c_end (hP : RR.prog = P) (X : K.In h) (G : h.Ns mainGlobals mg) (c : SaysY w h K) {w' : World} {f : Addr} {fd : FuncData} (F : FunD K "law" "law" (defArgs (topS 64)) (defBody (topS 64)) (defScope (topS 64)) [] [] f fd) (TB : GxR.TabB base mg (He.cT K ("within", none)).1 (He.cT K ("within", none)).2) :
    FnOk P w' K mg base CX0 12 f fd ["_law_script"] (spLaw K (He.cT K ("within", none)).2) := by
  have B := blt_of X G c.x.t.d
  have g := glo_of X G c
  obtain ⟨aP, gPA, hPA⟩ := g.pairs
  have bt := badTxt hP X G c (He.glo_ok X G (c.x.t.d.fact 50 (f := .glo "BadCode") rfl)) B.super_
  have p_is_integer := c_is_integer (P := P) (w := w') (base := base) (a_is_integer X G c.x.t.d) B
  have p_needed := c_needed (P := P) (w := w') (base := base) (a_needed X G c.x.t.d) B gPA hPA
  have p_kind_bounds := c_kind_bounds (P := P) (w := w') (base := base) (a_kind_bounds X G c.x.t.d) B
  have p_literal_bounds := c_literal_bounds (P := P) (w := w') (base := base) (a_literal_bounds X G c.x.t.d) B
  have p_union := c_union (P := P) (w := w') (base := base) (a_union X G c.x.t.d) B
  have p_single_kind := c_single_kind (P := P) (w := w') (base := base) (a_single_kind X G c.x.t.d) B
  have p_is_large := c_is_large (P := P) (w := w') (base := base) (a_is_large X G c.x.t.d) B g
  have p_pair_kinds := c_pair_kinds (P := P) (w := w') (base := base) (a_pair_kinds X G c.x.t.d) B
  have p_pair_bounds := c_pair_bounds (P := P) (w := w') (base := base) (a_pair_bounds X G c.x.t.d) B
  have p_single_bounds := c_single_bounds (P := P) (w := w') (base := base) (a_single_bounds X G c.x.t.d) B
  have p_combine := c_combine (P := P) (w := w') (base := base) (a_combine X G c.x.t.d) B
  have p_alter := c_alter (P := P) (w := w') (base := base) (a_alter X G c.x.t.d) B
  have p_is_printable := c_is_printable (P := P) (w := w') (base := base) (a_is_printable X G c.x.t.d) B
  have p_is_word := c_is_word (P := P) (w := w') (base := base) (a_is_word X G c.x.t.d) B
  have p_is_constant := c_is_constant (P := P) (w := w') (base := base) (a_is_constant X G c.x.t.d) B g p_is_printable p_is_integer
  have p_is_instruction := c_is_instruction (P := P) (w := w') (base := base) (a_is_instruction X G c.x.t.d) B g p_is_constant p_is_word p_is_integer
  have p_constant_bounds := c_constant_bounds (P := P) (w := w') (base := base) (a_constant_bounds X G c.x.t.d) B p_literal_bounds
  have p_check_form := c_check_form (P := P) (w := w') (base := base) (a_check_form X G c.x.t.d) B g bt p_is_instruction
  have p_merged := c_merged (P := P) (w := w') (base := base) (a_merged X G c.x.t.d) B bt p_union
  have p_within := c_within (P := P) (w := w') (base := base) (a_within X G c.x.t.d) B TB
  have p_result := c_result (P := P) (w := w') (base := base) (a_result X G c.x.t.d) B g bt p_union p_pair_kinds p_pair_bounds p_single_kind p_single_bounds p_is_large
  have p_after := c_after (P := P) (w := w') (base := base) (a_after X G c.x.t.d) B bt p_needed p_constant_bounds p_literal_bounds p_kind_bounds p_within p_result
  have p_judge := c_judge (P := P) (w := w') (base := base) (a_judge X G c.x.t.d) B bt p_check_form p_merged p_after
  have p_step := c_step (P := P) (w := w') (base := base) (a_step X G c.x.t.d) B g p_combine p_alter
  have p_run := c_run (P := P) (w := w') (base := base) (a_run X G c.x.t.d) B p_step
  have p_eval1 := c_eval1 (P := P) (w := w') (base := base) (a_L_eval X G c.x.t.d) (a_L_at X G c.x.t.d) B
  have p_eval2 := c_eval2 (P := P) (w := w') (base := base) (a_L_eval X G c.x.t.d) (a_L_at X G c.x.t.d) B p_eval1
  have p_L_machine := c_law_machine (P := P) (w := w') (base := base) (a_L_machine X G c.x.t.d) B p_eval2
  have p_L_draws := c_law_draws (P := P) (w := w') (base := base) (a_L_draws X G c.x.t.d) B
  have p_L_next := c_law_next (P := P) (w := w') (base := base) (a_L_next X G c.x.t.d) B
  have p_L_kind := c_law_kind (P := P) (w := w') (base := base) (a_L_kind X G c.x.t.d) B
  have p_L_schema := c_law_schema (P := P) (w := w') (base := base) (a_L_schema X G c.x.t.d) B p_L_next p_L_kind
  have p_L_value := c_law_value (P := P) (w := w') (base := base) (a_L_value X G c.x.t.d) B
  have p_L_record := c_law_record (P := P) (w := w') (base := base) (a_L_record X G c.x.t.d) B p_L_next p_L_value
  have p_L_leaf := c_law_leaf (P := P) (w := w') (base := base) (a_L_leaf X G c.x.t.d) B
  have p_expr := c_exprN (P := P) (w := w') (base := base) (a_L_expression X G c.x.t.d) B p_L_next p_L_leaf 2
  have p_L_set := c_law_set (P := P) (w := w') (base := base) (a_L_set X G c.x.t.d) B p_L_next p_expr
  have p_made0 := c_made0 (P := P) (w := w') (base := base) (a_L_made X G c.x.t.d) B p_L_next p_expr p_L_set
  have p_made1 := c_made1 (P := P) (w := w') (base := base) (a_L_made X G c.x.t.d) B p_L_next p_expr p_L_set p_made0
  have p_nodes := c_nodes (P := P) (w := w') (base := base) (a_L_nodes X G c.x.t.d) B 7
  have p_size0 := c_size0 (P := P) (w := w') (base := base) (a_L_size X G c.x.t.d) B p_nodes
  have p_size1 := c_size1 (P := P) (w := w') (base := base) (a_L_size X G c.x.t.d) B p_nodes p_size0
  have p_L_program := c_law_program (P := P) (w := w') (base := base) (a_L_program X G c.x.t.d) B p_made1 p_size1
  have p_L_at := c_law_at (P := P) (w := w') (base := base) (a_L_at X G c.x.t.d) B
  have p_code := c_code (P := P) (w := w') (base := base) (a_L_code X G c.x.t.d) B p_L_at 7
  have p_block0 := c_block0 (P := P) (w := w') (base := base) (a_L_block X G c.x.t.d) B p_L_at p_code
  have p_block1 := c_block1 (P := P) (w := w') (base := base) (a_L_block X G c.x.t.d) B p_L_at p_code p_block0
  have p_L_exact := c_law_exact (P := P) (w := w') (base := base) (a_L_exact X G c.x.t.d) B
  have p_L_valid := c_law_valid (P := P) (w := w') (base := base) (a_L_valid X G c.x.t.d) B
  have p_L_instruction := c_law_instruction (P := P) (w := w') (base := base) (a_L_instruction X G c.x.t.d) B
  have p_L_changed := c_law_changed (P := P) (w := w') (base := base) (a_L_changed X G c.x.t.d) B p_L_next p_L_instruction
  have p_L_accepted := c_law_accepted (P := P) (w := w') (base := base) (a_L_accepted X G c.x.t.d) B bt p_judge
  have p_law := c_law (P := P) (w := w') (base := base) F B p_L_draws p_L_schema p_L_record p_L_next p_block1 p_L_program p_L_changed p_L_accepted p_L_machine p_L_exact p_run p_L_valid
  exact p_law
end
end Snk
set_option Elab.async false
set_option linter.all false
set_option maxRecDepth 100000
set_option maxHeartbeats 0
/-! # The end -/
namespace Snk
open PySem PySem.Spec PyProof.Rows L2
theorem lawAt {w : World} {K : PySem.W.Frag} {h : Heap} {mg : Str → Option Value} {fa : Addr} (X : K.In h) (G : h.Ns mainGlobals mg) (hfa : mg ("law" : Str) = some (.ref fa)) (c : SaysY w h K) :
    LamX.LawAtS PySem.Challenge.rw_sinktree_k12_whole_judge_is_sound w K L2.CX0 12 63 "_law_script" mg fa h := by
  obtain ⟨fd, F⟩ := c.x.t.d.def_ 49 (d := dlaw) rfl
  have e := hfa.symm.trans (He.glo_ok X G (c.x.t.d.fact 49 (f := .glo "law") rfl))
  have e2 : fa = He.ga K "law" := by
    have z := Option.some.inj e
    injection z
  subst e2
  have b := FunD.bindsA (ps := ["_law_script"]) F fun _ _ _ _ _ _ us hl => match us, hl with | [_], _ => rfl
  refine ⟨fd, [He.cT K ("within", none)], spLaw K (He.cT K ("within", none)).2, fun p hp => ?_, fun p hp => ?_, fun p hp => ?_, fun s u => b s [u] rfl, fun H a ns hl _ hT hS => ?_, fun base Kb Gb TBs => ?_⟩
  · rw [List.mem_singleton.mp hp]
    exact c.x.empty _ (List.mem_singleton.mpr rfl)
  · rw [List.mem_singleton.mp hp]
    exact c.x.out _ (List.mem_singleton.mpr rfl)
  · rw [List.mem_singleton.mp hp]
    exact PySem.W.codeHd_of_K X (c.x.hd _ (List.mem_singleton.mpr rfl))
  · exact ⟨a, ns, rfl, hS, Nat.le_trans hl (by decide), ⟨#[], hT _ (List.mem_singleton.mpr rfl), trivial⟩, fun _ => rfl⟩
  · have t := TBs _ (List.mem_singleton.mpr rfl)
    exact c_end (P := (PySem.Challenge.rw_sinktree_k12_whole_judge_is_sound).prog) rfl X G c F ⟨t.code, t.bm, t.gP⟩
end Snk
theorem PySem.Challenge.cw_sinktree_k12_whole_judge_is_sound_holds : PySem.Challenge.rw_sinktree_k12_whole_judge_is_sound.Holds := by
  exact Snk.pre fun _ _ _ _ _ KX c G hmg => Snk.lawAt KX G hmg c
