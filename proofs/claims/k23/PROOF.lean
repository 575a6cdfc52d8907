import PyProof.Rows.All
import Wide.All
import OpenK.AllK
import Wide.FinOn
import KE.KStateDown
import HandS.ForMost
import HandS.Exc
import HandS.TryOnly
import HandS.ExcOwn
import HandS.WordsExc
import HandS.ExcInit
import HandS.ExcField
import HandS.Walk
import HandS.IsInst
import HandS.Strs
import HandS.Conv
import HandS.Wide
import HandS.WideBits
import HandS.More
import HandS.TupAny
import HandS.Style
import HandS.Defaults
import HandS.Codes
import HandS.Lambda
import HandS.EndTab
import HandS.HeadWalk
import HandS.Head0
import HandS.Head1
import HandS.Head2
import HandS.HeadHook4
import PySem.Challenge.RW_tilesregrow_k23_whole_rows_of_numbers
import HandS.Base
import HandS.Call
import HandS.List
import HandS.Comp
import HandS.Dict
import HandS.Iter
import KE.GoesMore
import KE.GoesEnum
import HandS.AnyAll
import PyProof.FactsAll.tuple_2
import PyProof.ReprRoads
import HandS.FStrTup
import PyProof.P3Eq
import PyProof.Rows.RegStrFacts
import PyProof.Ascii

-- part KA
set_option Elab.async false
set_option linter.all false
set_option maxRecDepth 100000
set_option maxHeartbeats 4000000
namespace Tg
open PySem PySem.Spec PyProof.Rows L2

/-! ### the text by places -/
def top (i : Nat) : Stmt := PySem.Challenge.pw_tilesregrow_k23_whole_rows_of_numbers.main.body.getD i (.Pass ⟨0, 0, 0, 0⟩)

/-! ### defs -/
/-- a def of the module as it stands behind the top -/
structure DefOk (K : PySem.W.Frag) (mg : Str → Option Value) (x : Str) (st : Stmt) : Prop where
  g : mg x = some (.ref (He.ga K x))
  ex : ∃ fd, FunD K x x (defArgs st) (defBody st) (defScope st) [] [] (He.ga K x) fd
/-- a def that lets nothing out, called by its name -/
structure Cal (P : Program) (w : World) (K : PySem.W.Frag) (mg : Str → Option Value) (base : Heap) (k : Nat) (x : Str) (sp : Sp) : Prop where
  ex : ∃ (f : Addr) (fd : FuncData) (ps : List Str), FnOk P w K mg base CX0 k f fd ps sp ∧ mg x = some (.ref f) ∧ PySem.W.keepIn K (.ref f) = true ∧ Binds K fd ps []
/-- a def that may raise -/
structure CalX (P : Program) (w : World) (K : PySem.W.Frag) (mg : Str → Option Value) (base : Heap) (k : Nat) (x : Str) (sp : Sp) : Prop where
  ex : ∃ (f : Addr) (fd : FuncData) (ps : List Str), FnOk P w K mg base (L2.CX P w) k f fd ps sp ∧ mg x = some (.ref f) ∧ PySem.W.keepIn K (.ref f) = true ∧ Binds K fd ps []
section
variable {P : Program} {w : World} {K : PySem.W.Frag} {mg : Str → Option Value} {base : Heap}
theorem cal_of {x : Str} {st : Stmt} {N ps : List Str} {k : Nat} {sp : Sp} (D : DefOk K mg x st) (S : FnScope N ps (defScope st))
    (hb : ∀ (kV doc pm : Value) (an : Option Addr) (cdv ct : Value) (us : List Value), us.length = ps.length → bindArgs (PySem.W.fnOf x x (defArgs st) (defBody st) (defScope st) .none kV doc pm an cdv ct) ⟨us, []⟩ = pure (ps.zip us))
    (len : ∀ vs H Q E, sp vs H Q E → vs.length = ps.length)
    (hbody : ∀ (f : Addr) (cdv : Value) (A : Around) (outer : List Env) (s : Shared) (H : Hp) (vs : List V) (Q : VK) (E : XK), Room k (A.deeper (envOfC x (defScope st) s.heap.objs.size f cdv)) → sp vs H Q E →
      ∃ t, PSs (cxOf CX0 P w K mg base N x (defScope st) f cdv A outer s H E).nox (defBody st) t ∧ t { nx := fun _ H' => Q .non H', rt := Q } (start N vs) H) : Cal P w K mg base (k + 1) x sp := by
  obtain ⟨fd, F⟩ := D.ex
  refine ⟨_, fd, ps, F.ok S len fun cdv A outer s H vs Q E hr h => ?_, D.g, F.kp, F.bindsN hb⟩
  obtain ⟨t, ht, q⟩ := hbody _ cdv A outer s H vs Q E hr h
  exact ⟨t, ht.nox, q⟩
theorem calX_of {x : Str} {st : Stmt} {N ps : List Str} {k : Nat} {sp : Sp} (D : DefOk K mg x st) (S : FnScope N ps (defScope st))
    (hb : ∀ (kV doc pm : Value) (an : Option Addr) (cdv ct : Value) (us : List Value), us.length = ps.length → bindArgs (PySem.W.fnOf x x (defArgs st) (defBody st) (defScope st) .none kV doc pm an cdv ct) ⟨us, []⟩ = pure (ps.zip us))
    (len : ∀ vs H Q E, sp vs H Q E → vs.length = ps.length)
    (hbody : ∀ (f : Addr) (cdv : Value) (A : Around) (outer : List Env) (s : Shared) (H : Hp) (vs : List V) (Q : VK) (E : XK), Room k (A.deeper (envOfC x (defScope st) s.heap.objs.size f cdv)) → sp vs H Q E →
      ∃ t, PSs (cxOf (L2.CX P w) P w K mg base N x (defScope st) f cdv A outer s H E) (defBody st) t ∧ t { nx := fun _ H' => Q .non H', rt := Q } (start N vs) H) : CalX P w K mg base (k + 1) x sp := by
  obtain ⟨fd, F⟩ := D.ex
  exact ⟨_, fd, ps, F.ok S len fun cdv A outer s H vs Q E hr h => hbody _ cdv A outer s H vs Q E hr h, D.g, F.kp, F.bindsN hb⟩
theorem Cal.weak {k : Nat} {x : Str} {sp sp' : Sp} (c : Cal P w K mg base k x sp) (h : ∀ vs H Q E, sp' vs H Q E → sp vs H Q E) : Cal P w K mg base k x sp' := by
  obtain ⟨f, fd, ps, F, a, b, d⟩ := c.ex
  exact ⟨f, fd, ps, F.imp h, a, b, d⟩
end
section
variable {X : Cx} {k j : Nat} {x : Str} {sp : Sp} {p pos : Pos} {e : Expr} {es : List Expr} {t : TA}
theorem pe_c (c : Cal X.prog X.w X.K X.mg X.base k x sp) (hr : Room j X.A) (hk : k ≤ j) (ha : PA X (e :: es) t) (hg : Gl X x := by rfl)
    (hdb : (x == ("__debug__" : Str)) = false := by decide) (he : starEach (e :: es) X.env = (false, eval e X.env) :: starEach es X.env := by rfl) (hpl : (backTo pos (starEach es X.env)).any (·.1) = false := by rfl) :
    PE X (.Call (.Name x p) (e :: es) [] pos) (tCall sp [] E0 t) := by
  obtain ⟨f, fd, ps, F, hm, kp, b⟩ := c.ex
  exact pe_call F (hr.mono hk) hg hm kp b .nil pass0 ha hdb he hpl
end
/-! ### what the module's names hold -/
def defTab : List (Str × Nat) := [(("is_whole" : Str), 7), (("is_count" : Str), 8), (("is_list" : Str), 9), (("is_name" : Str), 10), (("need_text" : Str), 15), (("text_lines" : Str), 16), (("word_at" : Str), 17), (("no_more" : Str), 18), (("names_of_line" : Str), 19), (("told_names" : Str), 20), (("place_of" : Str), 21), (("read_order" : Str), 22), (("read_mark" : Str), 23), (("need_values" : Str), 26), (("first_row" : Str), 38), (("values_of" : Str), 39), (("steps_told" : Str), 40), (("sweeps_of" : Str), 48), (("_law_pen" : Str), 50), (("_law_draw" : Str), 51), (("_law_pick" : Str), 52), (("_law_name" : Str), 53), (("_law_names" : Str), 54), (("_law_program" : Str), 55), (("_law_loop" : Str), 56), (("_law_any_program" : Str), 57), (("_law_marks" : Str), 58), (("_law_order_words" : Str), 59), (("_law_program_lines" : Str), 60), (("_law_text_of" : Str), 61), (("_law_some_values" : Str), 62), (("_law_digit" : Str), 63), (("_law_power_two" : Str), 64), (("_law_digits" : Str), 65), (("_law_row" : Str), 66), (("_law_refused" : Str), 67), (("_law_total" : Str), 68), (("law" : Str), 69)]
def freeTab : List Str := [("isinstance" : Str), ("int" : Str), ("bool" : Str), ("list" : Str), ("tuple" : Str), ("str" : Str), ("len" : Str), ("all" : Str), ("range" : Str), ("enumerate" : Str), ("max" : Str), ("min" : Str), ("sum" : Str), ("repr" : Str)]
def kinds : List (Str × Str) := [(("inc" : Str), ("R" : Str)), (("dec" : Str), ("R" : Str)), (("clear" : Str), ("R" : Str)), (("add" : Str), ("RR" : Str)), (("copy" : Str), ("RR" : Str)), (("jump" : Str), ("L" : Str)), (("ifzero" : Str), ("RL" : Str)), (("ifsame" : Str), ("RRL" : Str)), (("paint" : Str), ("C" : Str)), (("end" : Str), ("" : Str))]
abbrev sProgInit : Stmt := inClass (top 24) 0
abbrev sBadInit : Stmt := inClass (top 5) 0
abbrev cProg (K : PySem.W.Frag) : Addr := He.ga K "Program"
abbrev cBad (K : PySem.W.Frag) : Addr := He.ga K "BadNumber"
structure Txt (K : PySem.W.Frag) (mg : Str → Option Value) (w : World) : Prop where
  df : ∀ p ∈ defTab, DefOk K mg p.1 (top p.2)
  fr : ∀ x ∈ freeTab, mg x = none
  great : ∃ t, mg "GREAT" = some (.int 1099511627776 t)
  small : ∃ t, mg "SMALL" = some (.str "abcdefghijklmnopqrstuvwxyz" t)
  signs : ∃ t, mg "SIGNS" = some (.str "abcdefghijklmnopqrstuvwxyz0123456789" t)
  kindsG : mg "KINDS" = some (.ref (He.ga K "KINDS"))
  kindsD : ∃ es n, KDict K w (He.ga K "KINDS") es n
  kindsV : ∀ q ∈ kinds, ∃ u, PySem.W.nsIn K (He.ga K "KINDS") q.1 = some (some u) ∧ RelV (.str q.2) u
  progG : mg "Program" = some (.ref (cProg K))
  progC : Cls K (cProg K)
  progN : ∀ f ∈ ([("text" : Str), ("registers" : Str), ("colours" : Str), ("orders" : Str)] : List Str), NoAttr K (cProg K) f
  progM : Mk K (cProg K) (He.ma K (cProg K) "__init__")
  progI : ∃ fd, FunD K "__init__" "Program.__init__" (defArgs sProgInit) (defBody sProgInit) (defScope sProgInit) [] [] (He.ma K (cProg K) "__init__") fd
  badG : mg "BadNumber" = some (.ref (cBad K))
  badN : ∀ f ∈ ([("what" : Str), ("number" : Str)] : List Str), PySem.W.findIn K (.ref (cBad K)) f = some none
  badO : OexC K (cBad K)
  badF : PySem.W.findIn K (.ref (cBad K)) "__init__" = some (some (.ref (He.ma K (cBad K) "__init__")))
  badT : PySem.W.typeIn K (.ref (He.ma K (cBad K) "__init__")) = some (.type "function")
  badX : XfC K (cBad K)
  badE : PySem.W.exmOne K (.ref (cBad K)) (.ref (cBad K)) = some true
  badI : ∃ fd, FunD K "__init__" "BadNumber.__init__" (defArgs sBadInit) (defBody sBadInit) (defScope sBadInit) [] [] (He.ma K (cBad K) "__init__") fd
section
variable {K : PySem.W.Frag} {mg : Str → Option Value} {w : World}
theorem Txt.free (T : Txt K mg w) (x : Str) (h : freeTab.contains x = true := by decide +kernel) : mg x = none := T.fr x (List.contains_iff_mem.mp h)
theorem Txt.d (T : Txt K mg w) (i : Nat) {x : Str} {n : Nat} (h : defTab[i]? = some (x, n) := by rfl) : DefOk K mg x (top n) := T.df (x, n) (List.mem_of_getElem? h)
end
/-! ### heaps -/
/-- all but what stands at q is as it was -/
def Sm (q : Addr) (H H' : Hp) : Prop := ∀ b o, b ≠ q → H b = some o → H' b = some o
theorem Sm.refl {q : Addr} (H : Hp) : Sm q H H := fun _ _ _ h => h
theorem Sm.trans {q : Addr} {H H1 H2 : Hp} (a : Sm q H H1) (b : Sm q H1 H2) : Sm q H H2 := fun c o n h => b c o n (a c o n h)
theorem Sm.of {q : Addr} {H H' : Hp} (s : Same H H') : Sm q H H' := fun b o _ h => s b o h
theorem Sm.new {q : Addr} {H H' : Hp} (s : Sm q H H') {p : Addr} {o : HO} (h : H p = none) : Sm q H (upd H' p o) := fun b u n e => by
  rw [upd_ne (ne_of_none e h)]
  exact s b u n e
theorem Sm.upd {q : Addr} {H H' : Hp} (s : Sm q H H') {o : HO} : Sm q H (upd H' q o) := fun b u n e => by
  rw [upd_ne n]
  exact s b u n e
theorem same_new {H H' : Hp} (s : Same H H') {p : Addr} {o : HO} (h : H p = none) : Same H (upd H' p o) := fun b u e => by
  rw [upd_ne (ne_of_none e h)]
  exact s b u e
theorem same_upd {H : Hp} {p : Addr} {o : HO} (h : H p = none) : Same H (upd H p o) := same_new (Same.refl H) h
theorem Sm.free {q : Addr} {H H' : Hp} (s : Sm q H H') {p : Addr} (n : p ≠ q) (h : H' p = none) : H p = none := by
  cases e : H p with
  | none => rfl
  | some o =>
    rw [s p o n e] at h
    cases h
end Tg

-- part KOex
set_option Elab.async false
set_option linter.all false
set_option maxRecDepth 100000
set_option maxHeartbeats 4000000
namespace Tg
open PySem PySem.Spec PyProof.Rows L2
/-- an own exception class whose __init__ stores fields, by a look -/
def oexB (K : PySem.W.Frag) (C : Addr) : Bool := (match K.lookup C with
  | some ⟨.type "type", _, .cls cd, sl⟩ => (match cd.mro, sl.toList with
    | .ref C' :: bm, [_, _, _, _, some (.builtin n), _] => decide (C' = C) && (decide (n = "ValueError.__new__") && (!cd.hasDel && (cd.hasDict && PySem.HandSPX.refsVE bm)))
    | _, _ => false)
  | _ => false) && (decide (PySem.W.findIn K (.ref C) "__setattr__" = some (some (.builtin "object.__setattr__"))) && (decide (PySem.W.subIn K (.ref C) (.type "BaseException") = some true) &&
    (decide (PySem.W.typeIn K (.ref C) = some (.type "type")) && (PySem.W.keepIn K (.ref C) && (He.eqO (PySem.W.findIn K (.ref C) "__init__") (some (some (.ref (He.ma K C "__init__")))) && decide (PySem.W.typeIn K (.ref (He.ma K C "__init__")) = some (.type "function")))))))
theorem oexB_ok {K : PySem.W.Frag} {C : Addr} (h : oexB K C = true) : OexC K C ∧ PySem.W.findIn K (.ref C) "__init__" = some (some (.ref (He.ma K C "__init__"))) ∧ PySem.W.typeIn K (.ref (He.ma K C "__init__")) = some (.type "function") := by
  unfold oexB at h
  obtain ⟨h0, h⟩ := Bool.and_eq_true_iff.mp h
  obtain ⟨h1, h⟩ := Bool.and_eq_true_iff.mp h
  obtain ⟨h2, h⟩ := Bool.and_eq_true_iff.mp h
  obtain ⟨h3, h⟩ := Bool.and_eq_true_iff.mp h
  obtain ⟨h4, h⟩ := Bool.and_eq_true_iff.mp h
  obtain ⟨h5, h6⟩ := Bool.and_eq_true_iff.mp h
  refine ⟨⟨?_, of_decide_eq_true h1, of_decide_eq_true h2, of_decide_eq_true h3, h4⟩, He.eqO_ok h5, of_decide_eq_true h6⟩
  split at h0
  · rename_i dd cd sl ho
    split at h0
    · rename_i C' bm k0 k1 k2 k3 n k5 hm hs
      simp only [Bool.and_eq_true, decide_eq_true_eq, Bool.not_eq_true'] at h0
      obtain ⟨rfl, rfl, hdel, hd, hr⟩ := h0
      obtain ⟨nm, bs, mro, ns, qn, hdct, sn, sub, ab, col, del⟩ := cd
      dsimp only at hm hdel hd
      subst hm hdel hd
      have hsl : sl = #[k0, k1, k2, k3, some (.builtin "ValueError.__new__"), k5] := by
        obtain ⟨l⟩ := sl
        simp only at hs
        rw [hs]
      subst hsl
      exact ⟨nm, qn, ns, bs, bm, sn, sub, ab, col, dd, k0, k1, k2, k3, k5, ho, hr⟩
    · cases h0
  · cases h0
end Tg

-- part KB
set_option Elab.async false
set_option linter.all false
set_option maxRecDepth 100000
set_option maxHeartbeats 4000000
namespace Tg
open PySem PySem.Spec PyProof.Rows L2
section
variable {P : Program} {w : World} {K : PySem.W.Frag} {mg : Str → Option Value} {base : Heap}
/-! ### is_whole, is_count, is_list -/
inductive Whole : V → Bool → Prop where
  | int (i : Int) : Whole (.int i) true
  | str (z : Str) : Whole (.str z) false
def spWhole : Sp := fun vs H Q _ => ∃ x b, vs = [x] ∧ Whole x b ∧ Q (.bl b) H
theorem scWhole : FnScope ["value"] ["value"] (defScope (top 7)) := ⟨rfl, rfl, rfl, by decide +kernel, rfl, by decide +kernel, by decide +kernel⟩
theorem ok_whole (T : Txt K mg w) : Cal P w K mg base 1 "is_whole" spWhole := by
  refine cal_of (N := ["value"]) (ps := ["value"]) (T.d 0) scWhole (fun _ _ _ _ _ _ us hl => match us, hl with | [_], _ => rfl) (fun vs H Q E h => ?_) (fun f cdv A outer s H vs Q E hr h => ?_)
  · obtain ⟨x, b, rfl, _⟩ := h
    rfl
  · obtain ⟨x, b, rfl, hx, k⟩ := h
    refine ⟨_, pss_one (ps_ret (pe_and (pe_callB call_isi (by rfl) (T.free "isinstance") (by decide +kernel) (pa_cons (pv 0) (pa_cons (pe_bltn (v := .ty "int") (by rfl) (T.free "int") (by decide +kernel) rfl) pa_nil)))
      (pe_one (pe_not (pe_callB call_isi (by rfl) (T.free "isinstance") (by decide +kernel) (pa_cons (pv 0) (pa_cons (pe_bltn (v := .ty "bool") (by rfl) (T.free "bool") (by decide +kernel) rfl) pa_nil))))))), ?_⟩
    cases hx with
    | int i =>
      exact ⟨_, rfl, _, _, .type "int", .type "int", true, rfl, .ty "int", .base (.int i), kit_ty (by decide +kernel), true, rfl, iteT ⟨_, rfl, _, _, .type "int", .type "bool", false, rfl, .ty "bool", .base (.int i), kit_ty (by decide +kernel), false, rfl, k⟩⟩
    | str z =>
      exact ⟨_, rfl, _, _, .type "str", .type "int", false, rfl, .ty "int", .base (.str z), kit_ty (by decide +kernel), false, rfl, iteF k⟩
inductive Count : V → Bool → Prop where
  | int (i : Int) : Count (.int i) (decide (0 ≤ i))
  | str (z : Str) : Count (.str z) false
def spCount : Sp := fun vs H Q _ => ∃ x b, vs = [x] ∧ Count x b ∧ Q (.bl b) H
theorem scCount : FnScope ["value"] ["value"] (defScope (top 8)) := ⟨rfl, rfl, rfl, by decide +kernel, rfl, by decide +kernel, by decide +kernel⟩
theorem ok_count (T : Txt K mg w) : Cal P w K mg base 2 "is_count" spCount := by
  refine cal_of (N := ["value"]) (ps := ["value"]) (T.d 1) scCount (fun _ _ _ _ _ _ us hl => match us, hl with | [_], _ => rfl) (fun vs H Q E h => ?_) (fun f cdv A outer s H vs Q E hr h => ?_)
  · obtain ⟨x, b, rfl, _⟩ := h
    rfl
  · obtain ⟨x, b, rfl, hx, k⟩ := h
    refine ⟨_, pss_one (ps_ret (pe_and (pe_c (ok_whole T) hr (by decide) (pa_cons (pv 0) pa_nil)) (pe_one (pe_cmpR op_ge (pv 0) pe_int (nomark _))))), ?_⟩
    cases hx with
    | int i => exact ⟨_, rfl, _, true, rfl, .int i, true, rfl, iteT ⟨_, rfl, _, _, rfl, rfl, k⟩⟩
    | str z => exact ⟨_, rfl, _, false, rfl, .str z, false, rfl, iteF k⟩
inductive Listy (H : Hp) : V → Bool → Prop where
  | lst {a : Addr} {xs : List V} (h : H a = some (.lst xs)) : Listy H (.ref a) true
  | tup {a : Addr} {xs : List V} (h : H a = some (.tup xs)) : Listy H (.ref a) true
  | non : Listy H .non false
def spListy : Sp := fun vs H Q _ => ∃ x b, vs = [x] ∧ Listy H x b ∧ ∀ H', Same H H' → Q (.bl b) H'
theorem scListy : FnScope ["value"] ["value"] (defScope (top 9)) := ⟨rfl, rfl, rfl, by decide +kernel, rfl, by decide +kernel, by decide +kernel⟩
theorem ok_listy (T : Txt K mg w) : Cal P w K mg base 1 "is_list" spListy := by
  refine cal_of (N := ["value"]) (ps := ["value"]) (T.d 2) scListy (fun _ _ _ _ _ _ us hl => match us, hl with | [_], _ => rfl) (fun vs H Q E h => ?_) (fun f cdv A outer s H vs Q E hr h => ?_)
  · obtain ⟨x, b, rfl, _⟩ := h
    rfl
  · obtain ⟨x, b, rfl, hx, k⟩ := h
    refine ⟨_, pss_one (ps_ret (pe_callB call_isiT (by rfl) (T.free "isinstance") (by decide +kernel) (pa_cons (pv 0) (pa_cons (pe_tup (pa_cons (pe_bltn (v := .ty "list") (by rfl) (T.free "list") (by decide +kernel) rfl) (pa_cons (pe_bltn (v := .ty "tuple") (by rfl) (T.free "tuple") (by decide +kernel) rfl) pa_nil))) pa_nil)))), ?_⟩
    refine ⟨_, rfl, (by show 2 ≤ sizeLine; decide), fun p hp => ?_⟩
    have s : Same H (upd H p (.tup [.ty "list", .ty "tuple"])) := same_upd hp
    cases hx with
    | lst h => exact ⟨_, p, _, .type "list", [.type "list", .type "tuple"], true, rfl, upd_same, .cons (.ty _) (.cons (.ty _) .nil), .base (.lst (s _ _ h)), kitAny_cons (b := true) (kit_ty (by decide +kernel)) (fun q => nomatch q) (fun _ => rfl), k _ s⟩
    | tup h => exact ⟨_, p, _, .type "tuple", [.type "list", .type "tuple"], true, rfl, upd_same, .cons (.ty _) (.cons (.ty _) .nil), .base (.tup (s _ _ h)), kitAny_cons (b := false) (kit_ty (by decide +kernel)) (fun _ => kitAny_cons (b := true) (kit_ty (by decide +kernel)) (fun q => nomatch q) (fun _ => rfl)) (fun q => nomatch q), k _ s⟩
    | non => exact ⟨_, p, _, .type "NoneType", [.type "list", .type "tuple"], false, rfl, upd_same, .cons (.ty _) (.cons (.ty _) .nil), .base .non, kitAny_cons (b := false) (kit_ty (by decide +kernel)) (fun _ => kitAny_cons (b := false) (kit_ty (by decide +kernel)) (fun _ => rfl) (fun q => nomatch q)) (fun q => nomatch q), k _ s⟩
end
end Tg

-- part KC
set_option Elab.async false
set_option linter.all false
set_option maxRecDepth 100000
set_option maxHeartbeats 4000000
namespace Tg
open PySem PySem.Spec PyProof.Rows L2
theorem atI_int {α : Type} {xs : List α} {r : Int} (h0 : 0 ≤ r) (h1 : r < (xs.length : Int)) : ∃ v, v ∈ xs ∧ atI xs r = some v := by
  obtain ⟨k, rfl⟩ : ∃ k : Nat, r = (k : Int) := ⟨r.toNat, by omega⟩
  have hl : k < xs.length := by omega
  exact ⟨xs[k], List.getElem_mem hl, atI_nat (List.getElem?_eq_getElem hl)⟩
/-! ### the pen: a dict -/
def pk (c : Addr) (a d n f : Int) : List (Key × V) := [(.inr "cells", .ref c), (.inr "at", .int a), (.inr "digits", .int d), (.inr "count", .int n), (.inr "fold", .int f)]
theorem pk_merge (c : Addr) (a d n f : Int) : mergeK [] (pk c a d n f) = pk c a d n f := by kernel_rfl
theorem pk_count (c : Addr) (a d n f m : Int) : putK (pk c a d n f) (.inr ("count" : Str)) (.int m) = pk c a d m f := by kernel_rfl
theorem pk_at (c : Addr) (a d n f m : Int) : putK (pk c a d n f) (.inr ("at" : Str)) (.int m) = pk c m d n f := by kernel_rfl
theorem pk_digits (c : Addr) (a d n f m : Int) : putK (pk c a d n f) (.inr ("digits" : Str)) (.int m) = pk c a m n f := by kernel_rfl
theorem pk_fold (c : Addr) (a d n f m : Int) : putK (pk c a d n f) (.inr ("fold" : Str)) (.int m) = pk c a d n m := by kernel_rfl
theorem pv_cells (c : Addr) (a d n f : Int) : valV (pk c a d n f) (.inr ("cells" : Str)) = some (.ref c) := by kernel_rfl
theorem pv_at (c : Addr) (a d n f : Int) : valV (pk c a d n f) (.inr ("at" : Str)) = some (.int a) := by kernel_rfl
theorem pv_digits (c : Addr) (a d n f : Int) : valV (pk c a d n f) (.inr ("digits" : Str)) = some (.int d) := by kernel_rfl
theorem pv_count (c : Addr) (a d n f : Int) : valV (pk c a d n f) (.inr ("count" : Str)) = some (.int n) := by kernel_rfl
theorem pv_fold (c : Addr) (a d n f : Int) : valV (pk c a d n f) (.inr ("fold" : Str)) = some (.int f) := by kernel_rfl
section
variable {H : Hp} {q c : Addr} {a d n f m : Int} (h : H q = some (.dK (pk c a d n f)))
include h
theorem dg_cells : DGet H q (.str ("cells" : Str)) (some (.ref c)) := by have z := DGet.k (k := .inr ("cells" : Str)) h; rw [pv_cells] at z; exact z
theorem dg_at : DGet H q (.str ("at" : Str)) (some (.int a)) := by have z := DGet.k (k := .inr ("at" : Str)) h; rw [pv_at] at z; exact z
theorem dg_digits : DGet H q (.str ("digits" : Str)) (some (.int d)) := by have z := DGet.k (k := .inr ("digits" : Str)) h; rw [pv_digits] at z; exact z
theorem dg_count : DGet H q (.str ("count" : Str)) (some (.int n)) := by have z := DGet.k (k := .inr ("count" : Str)) h; rw [pv_count] at z; exact z
theorem dg_fold : DGet H q (.str ("fold" : Str)) (some (.int f)) := by have z := DGet.k (k := .inr ("fold" : Str)) h; rw [pv_fold] at z; exact z
theorem dp_at : DPut H q (.str ("at" : Str)) (.int m) (upd H q (.dK (pk c m d n f))) := by have z := DPut.k (k := .inr ("at" : Str)) (v := .int m) h (by show 5 < sizeLine; decide); rw [pk_at] at z; exact z
theorem dp_digits : DPut H q (.str ("digits" : Str)) (.int m) (upd H q (.dK (pk c a m n f))) := by have z := DPut.k (k := .inr ("digits" : Str)) (v := .int m) h (by show 5 < sizeLine; decide); rw [pk_digits] at z; exact z
theorem dp_count : DPut H q (.str ("count" : Str)) (.int m) (upd H q (.dK (pk c a d m f))) := by have z := DPut.k (k := .inr ("count" : Str)) (v := .int m) h (by show 5 < sizeLine; decide); rw [pk_count] at z; exact z
theorem dp_fold : DPut H q (.str ("fold" : Str)) (.int m) (upd H q (.dK (pk c a d n m))) := by have z := DPut.k (k := .inr ("fold" : Str)) (v := .int m) h (by show 5 < sizeLine; decide); rw [pk_fold] at z; exact z
end
/-- the pen at q, its cells at c, at most n draws so far -/
def PenAt (c q : Addr) (n : Nat) (H : Hp) : Prop := (∃ ns : List Int, H c = some (.lst (ns.map V.int))) ∧ ∃ a d k f : Int, H q = some (.dK (pk c a d k f)) ∧ 0 ≤ a ∧ 0 ≤ d ∧ 0 ≤ k ∧ k ≤ n ∧ 0 ≤ f ∧ f < 2147483648
theorem PenAt.isD {c q : Addr} {n : Nat} {H : Hp} (h : PenAt c q n H) : ∃ kvs, H q = some (.dK kvs) := let ⟨_, _, _, _, _, e, _⟩ := h; ⟨_, e⟩
theorem PenAt.ne {c q : Addr} {n : Nat} {H : Hp} (h : PenAt c q n H) {b : Addr} {o : HO} (hb : H b = some o) (hd : ∀ kvs, o ≠ .dK kvs) : b ≠ q := by
  obtain ⟨kvs, e⟩ := h.isD
  exact ne_of hb e (hd kvs)
theorem PenAt.ne_none {c q : Addr} {n : Nat} {H : Hp} (h : PenAt c q n H) {b : Addr} (hb : H b = none) : b ≠ q := by
  obtain ⟨kvs, e⟩ := h.isD
  exact (ne_of_none e hb).symm
theorem PenAt.mono {c q : Addr} {n m : Nat} {H : Hp} (h : PenAt c q n H) (hm : n ≤ m) : PenAt c q m H := by
  obtain ⟨h1, a, d, k, f, e, z1, z2, z3, z4, z5⟩ := h
  exact ⟨h1, a, d, k, f, e, z1, z2, z3, by omega, z5⟩
/-- an object at D that was not there at H0 is written -/
theorem PenAt.new {c q : Addr} {n m : Nat} {H H0 : Hp} (h : PenAt c q n H) (h0 : PenAt c q m H0) {D : Addr} {o : HO} (hD : H0 D = none) : PenAt c q n (upd H D o) := by
  obtain ⟨⟨ns, h1⟩, a, d, k, f, e, z⟩ := h
  obtain ⟨⟨_, g1⟩, _, _, _, _, ge, _⟩ := h0
  exact ⟨⟨ns, by rw [upd_ne (ne_of_none g1 hD)]; exact h1⟩, a, d, k, f, by rw [upd_ne (ne_of_none ge hD)]; exact e, z⟩
theorem PenAt.upd {c q : Addr} {n : Nat} {H : Hp} (h : PenAt c q n H) {D : Addr} {o : HO} (hD : H D = none) : PenAt c q n (upd H D o) := h.new h hD
section
variable {q : Addr} {H H' : Hp}
theorem Sm.lst (s : Sm q H H') {c : Addr} {n : Nat} (p : PenAt c q n H) {b : Addr} {xs : List V} (h : H b = some (.lst xs)) : H' b = some (.lst xs) := s _ _ (p.ne h (fun _ z => by cases z)) h
theorem Sm.tup (s : Sm q H H') {c : Addr} {n : Nat} (p : PenAt c q n H) {b : Addr} {xs : List V} (h : H b = some (.tup xs)) : H' b = some (.tup xs) := s _ _ (p.ne h (fun _ z => by cases z)) h
theorem Sm.sql {K : PySem.W.Frag} (s : Sm q H H') {c : Addr} {n : Nat} (p : PenAt c q n H) {b : Addr} {xs : List V} (h : SqL K H b xs) : SqL K H' b xs := by
  rcases h with (h | ⟨o, h⟩) | h
  · exact .inl (.inl (s.lst p h))
  · exact .inl (.inr ⟨o, s _ _ (p.ne h (fun _ z => by cases z)) h⟩)
  · exact .inr h
theorem Sm.sqt {K : PySem.W.Frag} (s : Sm q H H') {c : Addr} {n : Nat} (p : PenAt c q n H) {b : Addr} {xs : List V} (h : SqT K H b xs) : SqT K H' b xs := by
  rcases h with (h | ⟨o, h⟩) | h
  · exact .inl (.inl (s.tup p h))
  · exact .inl (.inr ⟨o, s _ _ (p.ne h (fun _ z => by cases z)) h⟩)
  · exact .inr h
end
section
variable {P : Program} {w : World} {K : PySem.W.Frag} {mg : Str → Option Value} {base : Heap}
def spDraw : Sp := fun vs H Q _ => ∃ (c q : Addr) (n : Nat) (m : Int), vs = [.ref q, .int m] ∧ PenAt c q n H ∧ n < 2 ^ 40 ∧ 0 < m ∧ m < 2 ^ 63 ∧
  ∀ (H' : Hp) (r : Int), Sm q H H' → PenAt c q (n + 1) H' → 0 ≤ r → r < m → Q (.int r) H'
theorem scDraw : FnScope ["_law_pen_here", "_law_many", "_law_cell", "_law_digit_here", "_law_blend"] ["_law_pen_here", "_law_many"] (defScope (top 51)) := ⟨rfl, rfl, rfl, by decide +kernel, rfl, by decide +kernel, by decide +kernel⟩
theorem ok_draw (T : Txt K mg w) : Cal P w K mg base 1 "_law_draw" spDraw := by
  refine cal_of (N := ["_law_pen_here", "_law_many", "_law_cell", "_law_digit_here", "_law_blend"]) (ps := ["_law_pen_here", "_law_many"]) (T.d 19) scDraw (fun _ _ _ _ _ _ us hl => match us, hl with | [_, _], _ => rfl) (fun vs H Q E h => ?_) (fun f0 cdv A outer s H vs Q E hr h => ?_)
  · obtain ⟨c, q, n, m, rfl, _⟩ := h
    rfl
  · obtain ⟨c, q, n, m, rfl, ⟨⟨ns, hc⟩, a, d, k, f, hq, ha, hd, hk, hkn, hf, hf2⟩, hn, hm, hm2, go⟩ := h
    have hu := hu_of hr
    have nd := scDraw.nd
    have G : ∀ (z : Str) (p1 p2 p3 : Pos) (j : Nat), PE _ (.Subscript (.Name "_law_pen_here" p1) (.Constant (.str z) j p2) p3) (tDGet (tVar 0) (tC (.str z))) := fun z p1 p2 p3 j => pe_dget (X := (cxOf CX0 P w K mg base ["_law_pen_here", "_law_many", "_law_cell", "_law_digit_here", "_law_blend"] "_law_draw" (defScope (top 51)) f0 cdv A outer s H E).nox) hu (pv 0) pe_str (fun _ _ => rfl)
    refine ⟨_, pss_cons (ps_dput hu (pv 0) pe_str (pe_op op_add (G _ _ _ _ _) pe_int) rfl)
      (C8.pss_cut (ps_if (PW.pt (pw_and (pt_cmpR op_eq (G _ _ _ _ _) pe_int (nomark _)) (pw_and1 (pt_cmpR op_lt (G _ _ _ _ _) (pe_callB call_len_seq (by rfl) (T.free "len") PySem.boot_len (pa_cons (G _ _ _ _ _) pa_nil)) (nomark _)))))
          (pss_cons (ps_set (i := 2) nd rfl (.inl rfl) (pe_ix ix_list (G _ _ _ _ _) (G _ _ _ _ _) (fun _ _ => rfl)))
            (pss_cons (ps_dput hu (pv 0) pe_str (pe_op op_add (G _ _ _ _ _) pe_int) rfl)
              (pss_one (ps_if (pt_cmpR op_ge (pv 2) (pe_op op_pow pe_int pe_int) (nomark _))
                (pss_one (ps_dput hu (pv 0) pe_str (pe_op op_sub (pv 2) (pe_op op_pow pe_int pe_int)) rfl))
                (pss_one (ps_dput hu (pv 0) pe_str (pe_op op_mod (pe_callTy call_int1 (by rfl) (T.free "int") (by decide +kernel) (pa_cons (pe_op op_add (pe_op op_mul (G _ _ _ _ _) pe_int) (pv 2)) pa_nil)) pe_int) rfl))))))
          pss_nil)
        (pss_cons (ps_if (pt_cmpR op_gt (G _ _ _ _ _) pe_int (nomark _))
          (pss_cons (ps_set (i := 3) nd rfl (.inl rfl) (pe_op op_mod (pe_callTy call_int1 (by rfl) (T.free "int") (by decide +kernel) (pa_cons (G _ _ _ _ _) pa_nil)) (pv 1)))
            (pss_cons (ps_dput hu (pv 0) pe_str (pe_op op_fdivW (G _ _ _ _ _) (pv 1)) rfl)
              (pss_one (ps_ret (pv 3)))))
          pss_nil)
          (pss_cons (ps_set (i := 4) nd rfl (.inl rfl) (pe_op op_add (pe_op op_add (G _ _ _ _ _) (pe_op op_mul (G _ _ _ _ _) pe_int)) pe_int))
            (pss_one (ps_ret (pe_op op_mod (pe_op op_fdiv (pe_callTy call_int1 (by rfl) (T.free "int") (by decide +kernel) (pa_cons (pe_op op_mod (pe_op op_pow (pv 4) pe_int) pe_int) pa_nil)) pe_int) (pv 1))))))), ?_⟩
    have ncq : c ≠ q := ne_of hc hq (by intro z; cases z)
    -- pen["count"] = pen["count"] + 1
    refine ⟨_, rfl, q, _, rfl, dg_count hq, _, _, rfl, rfl, _, rfl, q, _, rfl, dp_count hq, ?_⟩
    refine ⟨fun σ H1 => ∃ (a' d' f' : Int) (v : Option V), σ = [some (.ref q), some (.int m), v, none, none] ∧ H1 = upd H q (.dK (pk c a' d' (k + 1) f')) ∧ 0 ≤ a' ∧ 0 ≤ d' ∧ 0 ≤ f' ∧ f' < 2147483648, ?_, ?_⟩
    · have hc' : ∀ o, upd H q o c = some (.lst (ns.map V.int)) := fun o => by rw [upd_ne ncq]; exact hc
      refine ⟨_, rfl, q, _, rfl, dg_digits upd_same, rfl, _, rfl, ?_⟩
      refine ite2 (fun _ => ?_) (fun _ => iteF ⟨a, d, f, none, rfl, rfl, ha, hd, hf, hf2⟩)
      refine ⟨_, rfl, q, _, rfl, dg_at upd_same, _, rfl, q, _, rfl, dg_cells upd_same, c, _, rfl, .inl (SqL.of (hc' _)), _, _, rfl, rfl, _, rfl, ?_⟩
      refine ite2 (fun hlt => ?_) (fun _ => ⟨a, d, f, none, rfl, rfl, ha, hd, hf, hf2⟩)
      have hlt := of_decide_eq_true hlt
      rw [List.length_map] at hlt
      obtain ⟨z, hz⟩ : ∃ z, atI (ns.map V.int) a = some (V.int z) := by
        have e : a = ((a.toNat : Nat) : Int) := by omega
        have hl : a.toNat < ns.length := by omega
        rw [e]
        exact ⟨ns[a.toNat], atI_nat (by rw [List.getElem?_map, List.getElem?_eq_getElem hl] <;> rfl)⟩
      refine ⟨_, rfl, q, _, rfl, dg_cells upd_same, _, rfl, q, _, rfl, dg_at upd_same, c, _, _, _, rfl, rfl, SqL.of (hc' _), hz, ?_⟩
      refine ⟨_, rfl, q, _, rfl, dg_at upd_same, _, _, rfl, rfl, _, rfl, q, _, rfl, dp_at upd_same, ?_⟩
      rw [upd_upd]
      refine ⟨_, rfl, _, _, rfl, rfl, ⟨by decide, by decide, by decide⟩, _, _, rfl, rfl, _, rfl, ?_⟩
      refine ite2 (fun hge => ?_) (fun _ => ?_)
      · refine ⟨_, rfl, _, _, rfl, rfl, ⟨by decide, by decide, by decide⟩, _, _, rfl, rfl, _, rfl, q, _, rfl, dp_digits upd_same, ?_⟩
        rw [upd_upd]
        have hge := of_decide_eq_true hge
        exact ⟨a + 1, _, f, _, rfl, rfl, by omega, by omega, hf, hf2⟩
      · refine ⟨_, rfl, q, _, rfl, dg_fold upd_same, _, _, rfl, rfl, .inr ⟨by decide, by decide⟩, _, rfl, _, _, rfl, rfl, .inl ⟨_, rfl, _, _, rfl, rfl, (by show (0 : Int) < 2147483587; decide), _, rfl, q, _, rfl, dp_fold upd_same, ?_⟩⟩
        rw [upd_upd]
        exact ⟨a + 1, d, _, _, rfl, rfl, by omega, hd, Int.emod_nonneg _ (by decide), Int.lt_trans (Int.emod_lt_of_pos _ (by decide)) (by decide)⟩
    · rintro σ' H' ⟨a', d', f', v, rfl, rfl, ha', hd', hf', hf2'⟩
      have pen : ∀ d'' : Int, 0 ≤ d'' → PenAt c q (n + 1) (upd H q (.dK (pk c a' d'' (k + 1) f'))) := fun d'' h0 => ⟨⟨ns, by rw [upd_ne ncq]; exact hc⟩, a', d'', k + 1, f', upd_same, ha', h0, by omega, by omega, hf', hf2'⟩
      refine ⟨_, rfl, q, _, rfl, dg_digits upd_same, _, _, rfl, rfl, _, rfl, ?_⟩
      refine ite2 (fun hp => ?_) (fun _ => ?_)
      · have hp := of_decide_eq_true hp
        refine ⟨_, rfl, q, _, rfl, dg_digits upd_same, .inl ⟨_, rfl, _, rfl, _, _, rfl, rfl, hm, ?_⟩⟩
        refine ⟨_, rfl, q, _, rfl, dg_digits upd_same, _, rfl, _, _, rfl, rfl, wide_div hm (b := 63) (by omega) (by decide) (by decide), _, rfl, q, _, rfl, dp_digits upd_same, ?_⟩
        rw [upd_upd]
        exact ⟨_, rfl, go _ _ (Sm.refl H).upd (pen _ (Int.ediv_nonneg (by omega) (by omega))) (Int.emod_nonneg _ (by omega)) (Int.emod_lt_of_pos _ hm)⟩
      · refine ⟨_, rfl, q, _, rfl, dg_fold upd_same, _, rfl, q, _, rfl, dg_count upd_same, _, _, rfl, rfl, .inr ⟨by decide, by decide⟩, _, _, rfl, rfl, _, _, rfl, rfl, ?_⟩
        refine ⟨_, rfl, _, _, rfl, rfl, ⟨by decide, by decide, by omega⟩, _, _, rfl, rfl, (by show (0 : Int) < 2305843009213693951; decide), .inl ⟨_, rfl, _, _, rfl, rfl, ⟨by decide, by decide⟩, _, rfl, _, _, rfl, rfl, hm, ?_⟩⟩
        exact go _ _ (Sm.refl H).upd (pen _ hd') (Int.emod_nonneg _ (by omega)) (Int.emod_lt_of_pos _ hm)
/-! ### _law_pick -/
def spPick (K : PySem.W.Frag) : Sp := fun vs H Q _ => ∃ (c q l : Addr) (n : Nat) (xs : List V), vs = [.ref q, .ref l] ∧ PenAt c q n H ∧ n < 2 ^ 40 ∧ SqL K H l xs ∧ 0 < xs.length ∧ xs.length ≤ 1000 ∧
  ∀ (H' : Hp) (x : V), Sm q H H' → PenAt c q (n + 1) H' → x ∈ xs → Q x H'
theorem scPick : FnScope ["_law_pen_here", "_law_some"] ["_law_pen_here", "_law_some"] (defScope (top 52)) := ⟨rfl, rfl, rfl, by decide +kernel, rfl, by decide +kernel, by decide +kernel⟩
theorem ok_pick (T : Txt K mg w) : Cal P w K mg base 2 "_law_pick" (spPick K) := by
  refine cal_of (N := ["_law_pen_here", "_law_some"]) (ps := ["_law_pen_here", "_law_some"]) (T.d 20) scPick (fun _ _ _ _ _ _ us hl => match us, hl with | [_, _], _ => rfl) (fun vs H Q E h => ?_) (fun f0 cdv A outer s H vs Q E hr h => ?_)
  · obtain ⟨c, q, l, n, xs, rfl, _⟩ := h
    rfl
  · obtain ⟨c, q, l, n, xs, rfl, pen, hn, hl, h0, h1, go⟩ := h
    refine ⟨_, pss_one (ps_ret (pe_ix ix_list (pv 1) (pe_c (ok_draw T) hr (by decide) (pa_cons (pv 0) (pa_cons (pe_callB call_len_seq (by rfl) (T.free "len") PySem.boot_len (pa_cons (pv 1) pa_nil)) pa_nil))) (fun _ _ => rfl))), ?_⟩
    refine ⟨_, rfl, _, rfl, _, rfl, l, xs, rfl, .inl hl, c, q, n, _, rfl, pen, hn, by omega, by omega, fun H' r s p r0 r1 => ?_⟩
    obtain ⟨v, hv, ha⟩ := atI_int r0 r1
    exact ⟨l, xs, r, v, rfl, rfl, s.sql pen hl, ha, go H' _ s p hv⟩
end
end Tg

-- part KD
set_option Elab.async false
set_option linter.all false
set_option maxRecDepth 100000
set_option maxHeartbeats 4000000
namespace Tg
open PySem PySem.Spec PyProof.Rows L2
theorem same_sql {K : PySem.W.Frag} {H H' : Hp} {a : Addr} {xs : List V} (s : Same H H') (h : SqL K H a xs) : SqL K H' a xs := s.seq h
theorem same_sqt {K : PySem.W.Frag} {H H' : Hp} {a : Addr} {xs : List V} (s : Same H H') (h : SqT K H a xs) : SqT K H' a xs := by
  rcases h with (h | ⟨o, h⟩) | h
  · exact .inl (.inl (s _ _ h))
  · exact .inl (.inr ⟨o, s _ _ h⟩)
  · exact .inr h
section
variable {P : Program} {w : World} {K : PySem.W.Frag} {mg : Str → Option Value} {base : Heap}
/-! ### _law_pen -/
def spPen (K : PySem.W.Frag) : Sp := fun vs H Q _ => ∃ (a : Addr) (ns : List Int), vs = [.ref a] ∧ SqL K H a (ns.map V.int) ∧
  ∀ (H' : Hp) (c q : Addr), Same H H' → H q = none → PenAt c q 0 H' → Q (.ref q) H'
theorem scPen : FnScope ["_law_script", "_law_fold", "_law_cell"] ["_law_script"] (defScope (top 50)) := ⟨rfl, rfl, rfl, by decide +kernel, rfl, by decide +kernel, by decide +kernel⟩
theorem ok_pen (T : Txt K mg w) : Cal P w K mg base 1 "_law_pen" (spPen K) := by
  refine cal_of (N := ["_law_script", "_law_fold", "_law_cell"]) (ps := ["_law_script"]) (T.d 18) scPen (fun _ _ _ _ _ _ us hl => match us, hl with | [_], _ => rfl) (fun vs H Q E h => ?_) (fun f0 cdv A outer s H vs Q E hr h => ?_)
  · obtain ⟨a, ns, rfl, _⟩ := h
    rfl
  · obtain ⟨a, ns, rfl, hs, go⟩ := h
    have nd := scPen.nd
    refine ⟨_, pss_cons (ps_set (i := 1) nd rfl (.inl rfl) pe_int)
      (pss_cons (ps_for PassesOwn.never rfl (pi_list (pv 0)) (pg_name (i := 2) nd rfl (.inl rfl))
        (pss_one (ps_set (i := 1) nd rfl (.inl rfl) (pe_op op_mod (pe_callTy call_int1 (by rfl) (T.free "int") (by decide +kernel) (pa_cons (pe_op op_add (pe_op op_mul (pv 1) pe_int) (pv 2)) pa_nil)) pe_int))))
      (pss_one (ps_ret (pe_disp (pps_cons pe_str (pe_callTy call_list_of (by rfl) (T.free "list") (by decide +kernel) (pa_cons (pv 0) pa_nil)) (pps_cons pe_str pe_int (pps_cons pe_str pe_int (pps_cons pe_str pe_int (pps_cons pe_str (pv 1) pps_nil))))) (by rfl) (by rfl) (fun z => by cases z) (by decide))))), ?_⟩
    refine ⟨_, rfl, a, rfl, ⟨_, hs⟩, for_list (K := K) (a := a) (xs := ns.map V.int) (fun i σ H' => ∃ (f : Int) (v : Option V), σ = [some (.ref a), some (.int f), v] ∧ H' = H ∧ 0 ≤ f ∧ f < 2147483648)
      ⟨0, none, rfl, rfl, by decide, by decide⟩ (fun i σ H' _ ⟨_, _, _, e, _⟩ => by rw [e]; exact hs) ?_ ?_⟩
    · rintro i y σ H' hi ⟨f, v, rfl, rfl, h0, h1⟩
      obtain ⟨z, rfl⟩ : ∃ z, y = V.int z := by
        obtain ⟨z, _, e⟩ := List.mem_map.mp (List.mem_of_getElem? hi)
        exact ⟨z, e.symm⟩
      refine ⟨_, rfl, _, _, rfl, rfl, .inr ⟨by decide, by decide⟩, _, rfl, _, _, rfl, rfl, .inl ⟨_, rfl, _, _, rfl, rfl, (by show (0 : Int) < 1000000007; decide), ?_⟩⟩
      exact ⟨_, _, rfl, rfl, Int.emod_nonneg _ (by decide), Int.lt_trans (Int.emod_lt_of_pos _ (by decide)) (by decide)⟩
    · rintro σ H' ⟨f, v, rfl, rfl, h0, h1⟩
      intro p hp
      have s1 : Same H' (upd H' p (.dK [])) := same_upd hp
      refine ⟨_, rfl, a, _, rfl, .inl (same_sql s1 hs), fun l hl => ?_⟩
      have npl : p ≠ l := ne_of_none upd_same hl
      have hl0 : H' l = none := by rw [upd_ne npl.symm] at hl; exact hl
      refine ⟨_, rfl, (by rw [upd_ne npl]; exact upd_same), pk l 0 0 0 f, rfl, (by show 5 ≤ 15; decide), ?_⟩
      rw [pk_merge]
      refine go _ l p (same_new (same_new s1 hl0) hp) hp ⟨⟨ns, by rw [upd_ne npl.symm, upd_same]⟩, 0, 0, 0, f, upd_same, by decide, by decide, by decide, by decide, h0, h1⟩
end
end Tg

-- part KM
/-! plain lists: names -/
namespace TgM
def sml (c : Nat) : Bool := decide (97 ≤ c) && decide (c ≤ 122)
def sgn (c : Nat) : Bool := sml c || (decide (48 ≤ c) && decide (c ≤ 57))
/-- a name, by its code points -/
def NameL (l : List Nat) : Prop := (∃ c r, l = c :: r ∧ sml c = true) ∧ l.length ≤ 12 ∧ ∀ c ∈ l, sgn c = true
theorem NameL.app {l m : List Nat} (h : NameL l) (hm : ∀ c ∈ m, sgn c = true) (hl : l.length + m.length ≤ 12) : NameL (l ++ m) := by
  obtain ⟨⟨c, r, e, hc⟩, _, ha⟩ := h
  refine ⟨⟨c, r ++ m, by rw [e, List.cons_append], hc⟩, by rw [List.length_append]; exact hl, fun x hx => ?_⟩
  rcases List.mem_append.mp hx with hx | hx
  · exact ha x hx
  · exact hm x hx
theorem NameL.take {l : List Nat} {k : Nat} (h : NameL l) (hk : 0 < k) : NameL (l.take k) := by
  obtain ⟨⟨c, r, e, hc⟩, hl, ha⟩ := h
  refine ⟨⟨c, r.take (k - 1), ?_, hc⟩, by rw [List.length_take]; omega, fun x hx => ha x (List.mem_of_mem_take hx)⟩
  rw [e]
  obtain ⟨j, rfl⟩ : ∃ j, k = j + 1 := ⟨k - 1, by omega⟩
  rfl
theorem NameL.one {c : Nat} (h : sml c = true) : NameL [c] := ⟨⟨c, [], rfl, h⟩, by simp, fun x hx => by rw [List.mem_singleton.mp hx]; unfold sgn; rw [h, Bool.true_or]⟩
/-- the names that are tried -/
def cand (l : List Nat) : Nat → List Nat
  | 0 => l
  | k + 1 => (cand l k).take 8 ++ [49, 48, 48 + k]
theorem cand_len {l : List Nat} (h : l.length ≤ 8) : ∀ k, (cand l k).length ≤ 11
  | 0 => by show l.length ≤ 11; omega
  | k + 1 => by
    show ((cand l k).take 8 ++ [49, 48, 48 + k]).length ≤ 11
    rw [List.length_append, List.length_take]
    show min 8 _ + 3 ≤ 11
    omega
theorem cand_name {l : List Nat} (h : NameL l) (h8 : l.length ≤ 8) : ∀ k, k ≤ 9 → NameL (cand l k)
  | 0, _ => h
  | k + 1, hk => by
    refine NameL.app ((cand_name h h8 k (by omega)).take (by decide)) (fun c hc => ?_) ?_
    · simp only [List.mem_cons, List.not_mem_nil, or_false] at hc
      rcases hc with rfl | rfl | rfl
      · decide
      · decide
      · unfold sgn
        rw [show (decide (48 ≤ 48 + k) && decide (48 + k ≤ 57)) = true by rw [Bool.and_eq_true, decide_eq_true_eq, decide_eq_true_eq]; omega, Bool.or_true]
    · rw [List.length_take]
      show min 8 _ + 3 ≤ 12
      omega
/-- not all that are tried are used -/
theorem cand_free {l : List Nat} {us : List (List Nat)} (h8 : l.length ≤ 8) (hu : us.length ≤ 2) (h : ∀ k, k < us.length + 1 → cand l k ∈ us) : False := by
  have c1 : cand l 1 = l ++ [49, 48, 48] := by
    show l.take 8 ++ [49, 48, 48 + 0] = _
    rw [List.take_of_length_le h8]
  have n01 : cand l 0 ≠ cand l 1 := fun e => by
    rw [c1] at e
    have e2 := congrArg List.length (show l = l ++ [49, 48, 48] from e)
    rw [List.length_append] at e2
    simp at e2
  have l2 : (cand l 2).length = min 8 (l.length + 3) + 3 := by
    show ((cand l 1).take 8 ++ [49, 48, 48 + 1]).length = _
    rw [c1, List.length_append, List.length_take, List.length_append]
    rfl
  have n02 : cand l 0 ≠ cand l 2 := fun e => by
    have e2 := congrArg List.length e
    rw [l2] at e2
    have e3 : (cand l 0).length = l.length := rfl
    omega
  have n12 : cand l 1 ≠ cand l 2 := fun e => by
    have e2 : (cand l 0).take 8 ++ [49, 48, 48 + 0] = (cand l 1).take 8 ++ [49, 48, 48 + 1] := e
    have e3 := (List.append_inj' e2 rfl).2
    simp at e3
  match us, hu with
  | [], _ => exact absurd (h 0 (by simp)) (List.not_mem_nil)
  | [u], _ =>
    have h0 := List.mem_singleton.mp (h 0 (by simp))
    have h1 := List.mem_singleton.mp (h 1 (by simp))
    exact n01 (h0.trans h1.symm)
  | [u, v], _ =>
    have hs : [cand l 0, cand l 1, cand l 2] ⊆ [u, v] := fun x hx => by
      simp only [List.mem_cons, List.not_mem_nil, or_false] at hx
      rcases hx with rfl | rfl | rfl
      · exact h 0 (by simp)
      · exact h 1 (by simp)
      · exact h 2 (by simp)
    have nd : [cand l 0, cand l 1, cand l 2].Nodup := by
      simp only [List.nodup_cons, List.mem_cons, List.not_mem_nil, or_false, not_or, List.nodup_nil, and_true, not_false_eq_true]
      exact ⟨⟨n01, n02⟩, n12⟩
    have := nd.length_le_of_subset hs
    simp at this
end TgM

-- part KE1
set_option Elab.async false
set_option linter.all false
set_option maxRecDepth 100000
set_option maxHeartbeats 4000000
namespace Tg
open PySem PySem.Spec PyProof.Rows L2 TgM
abbrev tx (l : List Nat) : V := .str (SX.S l)
theorem tx_flat (us : List (List Nat)) : (us.map tx).all flatV = true := by
  rw [List.all_map]
  exact List.all_eq_true.mpr fun _ _ => rfl
theorem inV_tx (a : List Nat) (us : List (List Nat)) : inV (tx a) (us.map tx) = decide (a ∈ us) := by
  unfold inV
  rw [List.any_map]
  rw [Bool.eq_iff_iff, List.any_eq_true, decide_eq_true_eq]
  constructor
  · rintro ⟨x, hx, e⟩
    have e2 : (SX.S x == SX.S a) = true := e
    rw [SX.S_beq_eq, decide_eq_true_eq] at e2
    rw [← e2]
    exact hx
  · intro h
    refine ⟨a, h, ?_⟩
    show (SX.S a == SX.S a) = true
    rw [SX.S_beq_eq, decide_eq_true_eq]
/-- all but q and u is as it was -/
def SmU (q u : Addr) (H H' : Hp) : Prop := ∀ b o, b ≠ q → b ≠ u → H b = some o → H' b = some o
theorem SmU.of {q u : Addr} {H H' : Hp} (s : Sm q H H') : SmU q u H H' := fun b o n _ h => s b o n h
section
variable {P : Program} {w : World} {K : PySem.W.Frag} {mg : Str → Option Value} {base : Heap}
/-! ### _law_name -/
def spName : Sp := fun vs H Q _ => ∃ (c q u : Addr) (n : Nat) (us : List (List Nat)), vs = [.ref q, .ref u] ∧ PenAt c q n H ∧ n < 2 ^ 39 ∧ H u = some (.lst (us.map tx)) ∧ u ≠ c ∧ us.length ≤ 2 ∧
  ∀ (H' : Hp) (l : List Nat), SmU q u H H' → PenAt c q (n + 20) H' → H' u = some (.lst ((us ++ [l]).map tx)) → NameL l → l ∉ us → Q (tx l) H'
theorem scName : FnScope ["_law_pen_here", "_law_used", "_law_signs", "_law_name_here", "_law_k"] ["_law_pen_here", "_law_used"] (defScope (top 53)) := ⟨rfl, rfl, rfl, by decide +kernel, rfl, by decide +kernel, by decide +kernel⟩
theorem firsts_ok : ∀ c ∈ ("acdefghijklmnopqrtuvwxyz" : Str).cps.toList, sml c = true := by decide +kernel
theorem signs_ok : ∀ c ∈ ("abcdefghijklmnopqrstuvwxyz0123456789" : Str).cps.toList, sgn c = true := by decide +kernel
theorem firsts_len : ("acdefghijklmnopqrtuvwxyz" : Str).cps.toList.length = 24 := by decide +kernel
theorem signs_len : ("abcdefghijklmnopqrstuvwxyz0123456789" : Str).cps.toList.length = 36 := by decide +kernel
theorem ok_name (T : Txt K mg w) : Cal P w K mg base 3 "_law_name" spName := by
  refine cal_of (N := ["_law_pen_here", "_law_used", "_law_signs", "_law_name_here", "_law_k"]) (ps := ["_law_pen_here", "_law_used"]) (T.d 21) scName (fun _ _ _ _ _ _ us hl => match us, hl with | [_, _], _ => rfl) (fun vs H Q E h => ?_) (fun f0 cdv A outer s H vs Q E hr h => ?_)
  · obtain ⟨c, q, u, n, us, rfl, _⟩ := h
    rfl
  · obtain ⟨c, q, u, n, us, rfl, pen, hn, hu, huc, hul, go⟩ := h
    have nd := scName.nd
    refine ⟨_, pss_cons (ps_set (i := 2) nd rfl (.inl rfl) pe_str)
      (pss_cons (ps_set (i := 3) nd rfl (.inl rfl) (pe_ix ix_str pe_str (pe_c (ok_draw T) hr (by decide) (pa_cons (pv 0) (pa_cons pe_int pa_nil))) (fun _ _ => rfl)))
      (pss_cons (ps_for PassesOwn.never rfl (pi_range1 rfl (T.free "range") (pa_cons (pe_c (ok_pick T) hr (by decide) (pa_cons (pv 0) (pa_cons (pe_lst (pa_cons pe_int (pa_cons pe_int (pa_cons pe_int (pa_cons pe_int (pa_cons pe_int (pa_cons pe_int pa_nil))))))) pa_nil))) pa_nil)) (pg_name (i := 4) nd rfl (.inl rfl))
        (pss_one (ps_set (i := 3) nd rfl (.inl rfl) (pe_op op_add_str (pv 3) (pe_ix ix_str (pv 2) (pe_c (ok_draw T) hr (by decide) (pa_cons (pv 0) (pa_cons pe_int pa_nil))) (fun _ _ => rfl))))))
      (pss_cons (ps_for PassesOwn.never rfl (pi_range1 rfl (T.free "range") (pa_cons (pe_op op_add (pe_callB call_len_seq (by rfl) (T.free "len") PySem.boot_len (pa_cons (pv 1) pa_nil)) pe_int) pa_nil)) (pg_name (i := 4) nd rfl (.inl rfl))
        (pss_cons (ps_if (pt_cmpR op_notIn_seq (pv 3) (pv 1) (by rfl)) (pss_one ps_break) pss_nil)
          (pss_one (ps_set (i := 3) nd rfl (.inl rfl) (pe_op op_add_str (pe_slice C8.sl_txt (pv 3) po_none (po_some pe_int)) (pe_callTy call_str_int (by rfl) (T.free "str") (by decide +kernel) (pa_cons (pe_op op_add pe_int (pv 4)) pa_nil)))))))
      (pss_cons (ps_expr (pe_bm PySem.F.plainAttrs_list PySem.F.slot_list_append PySem.F.type_list_append mt_append (pv 1) (pa_cons (pv 3) pa_nil)))
      (pss_one (ps_ret (pv 3))))))), ?_⟩
    refine ⟨_, rfl, c, q, n, 24, rfl, pen, by omega, by decide, by decide, fun H1 r s1 pen1 r0 r1 => ?_⟩
    obtain ⟨ch, hch, hat⟩ := atI_int (xs := ("acdefghijklmnopqrtuvwxyz" : Str).cps.toList) r0 (by rw [firsts_len]; exact r1)
    refine ⟨_, r, ch, rfl, rfl, by decide, hat, ?_⟩
    have hnm : NameL [ch] := NameL.one (firsts_ok ch hch)
    -- range(pick(pen, [0, 0, 1, 2, 4, 7]))
    refine ⟨_, rfl, (by show 6 ≤ sizeLine; decide), fun p hp => ?_⟩
    have penp := pen1.upd (o := .lst [.int 0, .int 0, .int 1, .int 2, .int 4, .int 7]) hp
    refine ⟨c, q, p, n + 1, _, rfl, penp, by omega, SqL.of upd_same, by decide, by decide, fun H2 x s2 pen2 hx => ?_⟩
    obtain ⟨j, rfl, j0, j7⟩ : ∃ j : Int, x = .int j ∧ 0 ≤ j ∧ j ≤ 7 := by
      simp only [List.mem_cons, List.not_mem_nil, or_false] at hx
      rcases hx with rfl | rfl | rfl | rfl | rfl | rfl <;> exact ⟨_, rfl, by decide, by decide⟩
    have s12 : Sm q H1 H2 := ((Sm.refl H1).new hp).trans s2
    refine ⟨j, rfl, by omega, by omega, for_range (lo := 0) (n := j.toNat) (fun i σ H' => ∃ (l : List Nat) (v : Option V), σ = [some (.ref q), some (.ref u), some (.str "abcdefghijklmnopqrstuvwxyz0123456789"), some (tx l), v] ∧ Sm q H H' ∧ PenAt c q (n + 2 + i) H' ∧ NameL l ∧ l.length = 1 + i)
      ⟨[ch], none, rfl, s1.trans s12, pen2, hnm, rfl⟩ ?_ ?_⟩
    · rintro i σ H' hi ⟨l, v, rfl, s3, pen3, hl, hlen⟩
      refine ⟨_, rfl, _, rfl, _, rfl, c, q, n + 2 + i, 36, rfl, pen3, by omega, by decide, by decide, fun H4 r s4 pen4 r0 r1 => ?_⟩
      obtain ⟨ch2, hch2, hat2⟩ := atI_int (xs := ("abcdefghijklmnopqrstuvwxyz0123456789" : Str).cps.toList) r0 (by rw [signs_len]; exact r1)
      refine ⟨_, r, ch2, rfl, rfl, by decide, hat2, ?_⟩
      have hl8 : l.length ≤ 8 := by omega
      refine ⟨_, _, rfl, rfl, ?_, ?_⟩
      · rw [SX.S_len]
        show l.length + 1 ≤ sizeLine
        rw [sizeLine_eq]
        omega
      · rw [show SX.S l ++ (⟨#[ch2]⟩ : Str) = SX.S (l ++ [ch2]) from SX.S_cat l [ch2]]
        refine ⟨l ++ [ch2], _, rfl, s3.trans s4, pen4, hl.app (fun c hc => ?_) (by simp; omega), by simp; omega⟩
        rw [List.mem_singleton.mp hc]
        exact signs_ok ch2 hch2
    · rintro σ H3 ⟨l, v, rfl, s3, pen3, hl, hlen⟩
      have hl8 : l.length ≤ 8 := by omega
      have pen4 : PenAt c q (n + 9) H3 := pen3.mono (by omega)
      have huq : u ≠ q := pen.ne hu (fun _ z => by cases z)
      have hu3 : H3 u = some (.lst (us.map tx)) := s3 _ _ huq hu
      refine ⟨_, rfl, u, _, rfl, .inl (SqL.of hu3), _, _, rfl, rfl, _, rfl, by rw [List.length_map]; omega, by rw [List.length_map]; omega, ?_⟩
      have en : (((us.map tx).length : Nat) : Int) + 1 = ((us.length + 1 : Nat) : Int) := by rw [List.length_map]; omega
      show ∃ W : Nat → Nat → L2.St → Hp → Prop, _
      refine for_range (lo := 0) (n := ((((us.map tx).length : Nat) : Int) + 1).toNat) (fun i σ H' => ∃ (v : Option V), σ = [some (.ref q), some (.ref u), some (.str "abcdefghijklmnopqrstuvwxyz0123456789"), some (tx (cand l i)), v] ∧ H' = H3 ∧ ∀ k, k < i → cand l k ∈ us)
        ⟨v, rfl, rfl, fun k hk => absurd hk (Nat.not_lt_zero _)⟩ ?_ ?_
      · rintro i σ H' hi ⟨v, rfl, rfl, hused⟩
        rw [en] at hi
        have hi2 : i < us.length + 1 := by omega
        refine ⟨_, rfl, _, rfl, u, _, rfl, .inl (SqL.of hu3), rfl, tx_flat us, _, rfl, ?_⟩
        rw [if_pos rfl, inV_tx]
        by_cases hm : cand l i ∈ us
        · rw [decide_eq_true hm]
          refine iteF ?_
          have hc11 := cand_len hl8 i
          refine ⟨_, rfl, _, rfl, _, rfl, by rw [SX.S_len, sizeLine_eq]; omega, ?_⟩
          refine ⟨_, rfl, _, _, rfl, rfl, _, rfl, ?_, ?_⟩
          · have h1 : (100 + (0 + (i : Int))).natAbs.log2 < 10 := Flt.log2_lt_of (by decide) (by omega)
            exact Nat.lt_trans h1 (by decide)
          · have e1 : Txt.slice (SX.S (cand l i)) none (some 8) = SX.S ((cand l i).take 8) := SX.slice_to (by decide)
            have e2 : (Str.ofString (toString (100 + (0 + (i : Int)))) : Str) = SX.S [49, 48, 48 + i] := by
              have hi3 : i = 0 ∨ i = 1 ∨ i = 2 := by omega
              rcases hi3 with rfl | rfl | rfl <;> decide +kernel
            rw [e1, e2]
            refine ⟨_, _, rfl, rfl, ?_, ?_⟩
            · rw [SX.S_len, SX.S_len, List.length_take, sizeLine_eq]
              show min 8 _ + 3 ≤ 16777216
              omega
            · rw [SX.S_cat]
              refine ⟨_, rfl, rfl, fun k hk => ?_⟩
              rcases Nat.lt_succ_iff_lt_or_eq.mp hk with hk | rfl
              · exact hused k hk
              · exact hm
        · rw [decide_eq_false hm]
          refine iteT ?_
          refine ⟨_, rfl, .inl ⟨rfl, _, SqL.of hu3⟩, _, rfl, u, _, _, rfl, rfl, hu3, by rw [List.length_map]; exact small1000 (by omega), ?_⟩
          refine ⟨_, rfl, go _ (cand l i) (fun b o n1 n2 hb => by rw [upd_ne n2]; exact s3 b o n1 hb) ?_ (by rw [upd_same, List.map_append] <;> rfl) (cand_name hl hl8 i (by omega)) hm⟩
          obtain ⟨⟨ms, g1⟩, a', d', k', f', g2, z⟩ := pen4.mono (show n + 9 ≤ n + 20 by omega)
          exact ⟨⟨ms, by rw [upd_ne huc.symm]; exact g1⟩, a', d', k', f', by rw [upd_ne huq.symm]; exact g2, z⟩
      · rintro σ H' ⟨v, rfl, rfl, hused⟩
        rw [en] at hused
        exact (cand_free hl8 hul fun k hk => hused k (by omega)).elim
end
end Tg

-- part KE2
set_option Elab.async false
set_option linter.all false
set_option maxRecDepth 100000
set_option maxHeartbeats 4000000
namespace Tg
open PySem PySem.Spec PyProof.Rows L2 TgM
section
variable {P : Program} {w : World} {K : PySem.W.Frag} {mg : Str → Option Value} {base : Heap}
/-! ### _law_names -/
def spNames : Sp := fun vs H Q _ => ∃ (c q : Addr) (n : Nat) (m : Int), vs = [.ref q, .int m] ∧ PenAt c q n H ∧ n < 2 ^ 38 ∧ 0 ≤ m ∧ m ≤ 3 ∧
  ∀ (H' : Hp) (D : Addr) (rs : List (List Nat)), Sm q H H' → PenAt c q (n + 60) H' → H' D = some (.lst (rs.map tx)) → (rs.length : Int) = m → rs.Nodup → (∀ l ∈ rs, NameL l) → Q (.ref D) H'
theorem scNames : FnScope ["_law_pen_here", "_law_many", "_law_used", "_law_k"] ["_law_pen_here", "_law_many"] (defScope (top 54)) := ⟨rfl, rfl, rfl, by decide +kernel, rfl, by decide +kernel, by decide +kernel⟩
theorem ok_names (T : Txt K mg w) : Cal P w K mg base 4 "_law_names" spNames := by
  refine cal_of (N := ["_law_pen_here", "_law_many", "_law_used", "_law_k"]) (ps := ["_law_pen_here", "_law_many"]) (T.d 22) scNames (fun _ _ _ _ _ _ us hl => match us, hl with | [_, _], _ => rfl) (fun vs H Q E h => ?_) (fun f0 cdv A outer s H vs Q E hr h => ?_)
  · obtain ⟨c, q, n, m, rfl, _⟩ := h
    rfl
  · obtain ⟨c, q, n, m, rfl, pen, hn, m0, m3, go⟩ := h
    have nd := scNames.nd
    refine ⟨_, pss_cons (ps_set (i := 2) nd rfl (.inr rfl) (pe_lst pa_nil))
      (pss_one (ps_ret (pe_lc (own := [("_law_k", 3)]) (g := gName 3) (tt := tYes) rfl nd (pi_range1 rfl (T.free "range") (pa_cons (pv 1) pa_nil)) (blkOk_by (N := ["_law_pen_here", "_law_many", "_law_used", "_law_k"]) (sc := defScope (top 54)) (by decide +kernel))
        (fun _ _ _ _ _ => pg_name (i := 3) nd rfl (.inl rfl)) (fun _ _ _ _ _ => pts_nil) (fun _ _ _ _ _ => pe_c (ok_name T) hr (by decide) (pa_cons (pv 0) (pa_cons (pv 2) pa_nil)))))), ?_⟩
    refine ⟨Nat.zero_le _, fun u hu => ?_⟩
    refine ⟨_, rfl, m, rfl, by omega, by omega, fun D hD => ?_⟩
    have huD : u ≠ D := ne_of_none upd_same hD
    have hD0 : H D = none := by rw [upd_ne huD.symm] at hD; exact hD
    have huq : u ≠ q := pen.ne_none hu
    have hDq : D ≠ q := pen.ne_none hD0
    have huc : u ≠ c := fun z => by
      obtain ⟨⟨ms, g⟩, _⟩ := pen
      rw [z, g] at hu
      cases hu
    refine lc_range (lo := 0) (n := m.toNat) (fun i H' => ∃ rs : List (List Nat), rs.length = i ∧ rs.Nodup ∧ (∀ l ∈ rs, NameL l) ∧ Sm q H H' ∧ PenAt c q (n + 20 * i) H' ∧ H' u = some (.lst (rs.map tx)) ∧ H' D = some (.lst (rs.map tx))) ?_ ?_ ?_
    · exact ⟨[], rfl, List.nodup_nil, fun _ h => absurd h List.not_mem_nil, ((Sm.refl H).new hu).new hD0, (pen.upd hu).new pen hD0, by rw [upd_ne huD, upd_same] <;> rfl, upd_same⟩
    · rintro i H' hi ⟨rs, rfl, hnd, hnm, s1, pen1, h1, h2⟩
      refine ⟨rfl, _, rfl, _, rfl, c, q, u, n + 20 * rs.length, rs, rfl, pen1, by omega, h1, huc, by omega, fun H4 l s4 pen4 h4 hl hfree => ?_⟩
      have hD4 : H4 D = some (.lst (rs.map tx)) := s4 _ _ hDq huD.symm h2
      refine ⟨_, hD4, by rw [List.length_map]; exact small1000 (by omega), rs ++ [l], by simp, ?_, fun x hx => ?_, ?_, ?_, by rw [upd_ne huD]; exact h4, by rw [upd_same, List.map_append] <;> rfl⟩
      · rw [List.nodup_append]
        exact ⟨hnd, List.nodup_cons.mpr ⟨List.not_mem_nil, List.nodup_nil⟩, fun a ha b hb => by rw [List.mem_singleton.mp hb]; exact fun z => hfree (z ▸ ha)⟩
      · rcases List.mem_append.mp hx with hx | hx
        · exact hnm x hx
        · rw [List.mem_singleton.mp hx]
          exact hl
      · refine Sm.new (fun b o nb hb => s4 b o nb (ne_of_none hb hu) (s1 b o nb hb)) hD0
      · have e : n + 20 * rs.length + 20 = n + 20 * (rs.length + 1) := by omega
        rw [e] at pen4
        exact pen4.new pen hD0
    · rintro H' ⟨rs, hl, hnd, hnm, s1, pen1, h1, h2⟩
      exact go H' D rs s1 (pen1.mono (by omega)) h2 (by omega) hnd hnm
end
end Tg

-- part KF
set_option Elab.async false
set_option linter.all false
set_option maxRecDepth 100000
set_option maxHeartbeats 4000000
namespace Tg
open PySem PySem.Spec PyProof.Rows L2 TgM
/-! ### orders -/
def ordV (o : Str × List Int) : List V := .str o.1 :: o.2.map V.int
inductive OrdOk (nr nc no : Nat) : Str × List Int → Prop where
  | one {w : Str} {i : Int} (hw : w = "inc" ∨ w = "dec" ∨ w = "clear") (h0 : 0 ≤ i) (h1 : i < nr) : OrdOk nr nc no (w, [i])
  | two {w : Str} {i j : Int} (hw : w = "add" ∨ w = "copy") (h0 : 0 ≤ i) (h1 : i < nr) (h2 : 0 ≤ j) (h3 : j < nr) : OrdOk nr nc no (w, [i, j])
  | jump {p : Int} (h0 : 0 ≤ p) (h1 : p ≤ no) : OrdOk nr nc no ("jump", [p])
  | ifz {i p : Int} (h0 : 0 ≤ i) (h1 : i < nr) (h2 : 0 ≤ p) (h3 : p ≤ no) : OrdOk nr nc no ("ifzero", [i, p])
  | ifs {i j p : Int} (h0 : 0 ≤ i) (h1 : i < nr) (h2 : 0 ≤ j) (h3 : j < nr) (h4 : 0 ≤ p) (h5 : p ≤ no) : OrdOk nr nc no ("ifsame", [i, j, p])
  | paint {k : Int} (h0 : 0 ≤ k) (h1 : k < nc) : OrdOk nr nc no ("paint", [k])
  | stop : OrdOk nr nc no ("end", [])
theorem OrdOk.len {nr nc no : Nat} {o : Str × List Int} (h : OrdOk nr nc no o) : o.2.length ≤ 3 := by
  cases h <;> simp
def OrdsAt (H : Hp) (lo : Addr) (os : List (Str × List Int)) : Prop := ∃ ts : List Addr, H lo = some (.lst (ts.map V.ref)) ∧ Paired (fun t o => H t = some (.tup (ordV o))) ts os
theorem paired_snoc {α β : Type} {R : α → β → Prop} : ∀ {xs : List α} {ys : List β} {x : α} {y : β}, Paired R xs ys → R x y → Paired R (xs ++ [x]) (ys ++ [y])
  | _, _, _, _, .nil, r => .cons r .nil
  | _, _, _, _, .cons a t, r => .cons a (paired_snoc t r)
def dk (lr lc lo : Addr) : List (Key × V) := [(.inr "registers", .ref lr), (.inr "colours", .ref lc), (.inr "orders", .ref lo)]
theorem dk_merge (lr lc lo : Addr) : mergeK [] (dk lr lc lo) = dk lr lc lo := by kernel_rfl
theorem dk_r (lr lc lo : Addr) : valV (dk lr lc lo) (.inr ("registers" : Str)) = some (.ref lr) := by kernel_rfl
theorem dk_c (lr lc lo : Addr) : valV (dk lr lc lo) (.inr ("colours" : Str)) = some (.ref lc) := by kernel_rfl
theorem dk_o (lr lc lo : Addr) : valV (dk lr lc lo) (.inr ("orders" : Str)) = some (.ref lo) := by kernel_rfl
structure Good (rs cs : List (List Nat)) (os : List (Str × List Int)) : Prop where
  r1 : 1 ≤ rs.length
  r3 : rs.length ≤ 3
  rd : rs.Nodup
  rn : ∀ l ∈ rs, NameL l
  c1 : 1 ≤ cs.length
  c3 : cs.length ≤ 3
  cd : cs.Nodup
  cn : ∀ l ∈ cs, NameL l
  o8 : os.length ≤ 8
  ok : ∀ o ∈ os, OrdOk rs.length cs.length os.length o
def DrawnAt (H : Hp) (d : Addr) (rs cs : List (List Nat)) (os : List (Str × List Int)) : Prop :=
  ∃ lr lc lo : Addr, H d = some (.dK (dk lr lc lo)) ∧ H lr = some (.lst (rs.map tx)) ∧ H lc = some (.lst (cs.map tx)) ∧ OrdsAt H lo os
/-- d[i] = v, by values, as a target -/
theorem set_dict {X : Cx} (hu : X.A.units + 1 < cLine) : PSet X (fun o i v H Q => ∃ (a : Addr) (H' : Hp), o = .ref a ∧ DPut H a i v H' ∧ Q H') := by
  intro pins s σ H o i v ov iv u Q I ro ri rv h
  obtain ⟨a, H', rfl, g, q⟩ := h
  cases ro
  exact d_setItem hu I g ri rv fun s' I' => ⟨H', I', q⟩
/-! ### _law_program -/
def mk4 (t1 t2 t3 t4 : Addr) : List (Key × V) := [(.inr "add", .ref t1), (.inr "copy", .ref t2), (.inr "jump", .ref t3), (.inr "ifzero", .ref t4)]
def mk7 (t1 t2 t3 t4 t5 t6 t7 : Addr) : List (Key × V) := [(.inr "add", .ref t1), (.inr "copy", .ref t2), (.inr "jump", .ref t3), (.inr "ifzero", .ref t4), (.inr "ifsame", .ref t5), (.inr "paint", .ref t6), (.inr "end", .ref t7)]
theorem mk4_merge (t1 t2 t3 t4 : Addr) : mergeK [] (mk4 t1 t2 t3 t4) = mk4 t1 t2 t3 t4 := by kernel_rfl
theorem mk7_put (t1 t2 t3 t4 t5 t6 t7 : Addr) : putK (putK (putK (mk4 t1 t2 t3 t4) (.inr ("ifsame" : Str)) (.ref t5)) (.inr ("paint" : Str)) (.ref t6)) (.inr ("end" : Str)) (.ref t7) = mk7 t1 t2 t3 t4 t5 t6 t7 := by kernel_rfl
section
variable (t1 t2 t3 t4 t5 t6 t7 : Addr)
theorem mk7_inc : valV (mk7 t1 t2 t3 t4 t5 t6 t7) (.inr ("inc" : Str)) = none := by kernel_rfl
theorem mk7_dec : valV (mk7 t1 t2 t3 t4 t5 t6 t7) (.inr ("dec" : Str)) = none := by kernel_rfl
theorem mk7_clear : valV (mk7 t1 t2 t3 t4 t5 t6 t7) (.inr ("clear" : Str)) = none := by kernel_rfl
theorem mk7_add : valV (mk7 t1 t2 t3 t4 t5 t6 t7) (.inr ("add" : Str)) = some (.ref t1) := by kernel_rfl
theorem mk7_copy : valV (mk7 t1 t2 t3 t4 t5 t6 t7) (.inr ("copy" : Str)) = some (.ref t2) := by kernel_rfl
theorem mk7_jump : valV (mk7 t1 t2 t3 t4 t5 t6 t7) (.inr ("jump" : Str)) = some (.ref t3) := by kernel_rfl
theorem mk7_ifzero : valV (mk7 t1 t2 t3 t4 t5 t6 t7) (.inr ("ifzero" : Str)) = some (.ref t4) := by kernel_rfl
theorem mk7_ifsame : valV (mk7 t1 t2 t3 t4 t5 t6 t7) (.inr ("ifsame" : Str)) = some (.ref t5) := by kernel_rfl
theorem mk7_paint : valV (mk7 t1 t2 t3 t4 t5 t6 t7) (.inr ("paint" : Str)) = some (.ref t6) := by kernel_rfl
theorem mk7_end : valV (mk7 t1 t2 t3 t4 t5 t6 t7) (.inr ("end" : Str)) = some (.ref t7) := by kernel_rfl
end
section
variable {P : Program} {w : World} {K : PySem.W.Frag} {mg : Str → Option Value} {base : Heap}
abbrev nmProgram : List Str := ["_law_pen_here", "_law_most", "_law_registers", "_law_colours", "_law_many", "_law_orders", "_law_lap", "_law_words", "_law_word", "_law_one", "_law_two", "_law_place", "_law_more"]
def spProgram : Sp := fun vs H Q _ => ∃ (c q : Addr) (n : Nat), vs = [.ref q, .int 4] ∧ PenAt c q n H ∧ n < 2 ^ 37 ∧
  ∀ (H' : Hp) (d : Addr) (rs cs : List (List Nat)) (os : List (Str × List Int)), Sm q H H' → PenAt c q (n + 200) H' → DrawnAt H' d rs cs os → Good rs cs os → d ≠ q → Q (.ref d) H'
theorem scProgram : FnScope nmProgram ["_law_pen_here", "_law_most"] (defScope (top 55)) := ⟨rfl, rfl, rfl, by decide +kernel, rfl, by decide +kernel, by decide +kernel⟩
theorem ok_program (T : Txt K mg w) : Cal P w K mg base 5 "_law_program" spProgram := by
  refine cal_of (N := nmProgram) (ps := ["_law_pen_here", "_law_most"]) (T.d 23) scProgram (fun _ _ _ _ _ _ us hl => match us, hl with | [_, _], _ => rfl) (fun vs H Q E h => ?_) (fun f0 cdv A outer s H vs Q E hr h => ?_)
  · obtain ⟨c, q, n, rfl, _⟩ := h
    rfl
  · obtain ⟨c, q, n, rfl, pen, hn, go⟩ := h
    have nd := scProgram.nd
    have hu := hu_of hr
    refine ⟨_, pss_cons (ps_set (i := 2) nd rfl (.inl rfl) (pe_c (ok_names T) hr (by decide) (pa_cons (pv 0) (pa_cons (pe_op op_add pe_int (pe_c (ok_draw T) hr (by decide) (pa_cons (pv 0) (pa_cons pe_int pa_nil)))) pa_nil))))
      (pss_cons (ps_par (i := 3) (j := 4) (by rfl) nd rfl rfl (by decide) rfl rfl (pa_cons (pe_c (ok_names T) hr (by decide) (pa_cons (pv 0) (pa_cons (pe_op op_add pe_int (pe_c (ok_draw T) hr (by decide) (pa_cons (pv 0) (pa_cons pe_int pa_nil)))) pa_nil)))
          (pa_cons (pe_c (ok_draw T) hr (by decide) (pa_cons (pv 0) (pa_cons (pe_op op_add (pv 1) pe_int) pa_nil))) pa_nil)) (by rfl))
      (pss_cons (ps_set (i := 5) nd rfl (.inl rfl) (pe_lst pa_nil))
      (pss_cons (ps_for PassesOwn.never rfl (pi_range1 rfl (T.free "range") (pa_cons (pv 4) pa_nil)) (pg_name (i := 6) nd rfl (.inl rfl))
        (pss_cons (ps_set (i := 7) nd rfl (.inl rfl) (pe_lst (pa_cons pe_str (pa_cons pe_str (pa_cons pe_str (pa_cons pe_str (pa_cons pe_str (pa_cons pe_str (pa_cons pe_str (pa_cons pe_str (pa_cons pe_str (pa_cons pe_str pa_nil))))))))))))
        (pss_cons (ps_set (i := 8) nd rfl (.inl rfl) (pe_c (ok_pick T) hr (by decide) (pa_cons (pv 0) (pa_cons (pe_op op_cat (pv 7) (pe_lst (pa_cons pe_str (pa_cons pe_str pa_nil)))) pa_nil))))
        (pss_cons (ps_par (i := 9) (j := 10) (by rfl) nd rfl rfl (by decide) rfl rfl (pa_cons (pe_c (ok_draw T) hr (by decide) (pa_cons (pv 0) (pa_cons (pe_callB call_len_seq (by rfl) (T.free "len") PySem.boot_len (pa_cons (pv 2) pa_nil)) pa_nil)))
          (pa_cons (pe_c (ok_draw T) hr (by decide) (pa_cons (pv 0) (pa_cons (pe_callB call_len_seq (by rfl) (T.free "len") PySem.boot_len (pa_cons (pv 2) pa_nil)) pa_nil))) pa_nil)) (by rfl))
        (pss_cons (ps_set (i := 11) nd rfl (.inl rfl) (pe_c (ok_pick T) hr (by decide) (pa_cons (pv 0) (pa_cons (pe_lst (pa_cons (pe_op op_add (pe_callB call_len_seq (by rfl) (T.free "len") PySem.boot_len (pa_cons (pv 5) pa_nil)) pe_int)
          (pa_cons (pv 4) (pa_cons (pe_c (ok_draw T) hr (by decide) (pa_cons (pv 0) (pa_cons (pe_op op_add (pv 4) pe_int) pa_nil))) pa_nil)))) pa_nil))))
        (pss_cons (ps_set (i := 12) nd rfl (.inl rfl) (pe_disp (pps_cons pe_str (pe_tup (pa_cons (pv 9) (pa_cons (pv 10) pa_nil))) (pps_cons pe_str (pe_tup (pa_cons (pv 9) (pa_cons (pv 10) pa_nil))) (pps_cons pe_str (pe_tup (pa_cons (pv 11) pa_nil)) (pps_cons pe_str (pe_tup (pa_cons (pv 9) (pa_cons (pv 11) pa_nil))) pps_nil)))) (by rfl) (by rfl) (fun z => by cases z) (by decide)))
        (pss_cons (ps_asg (pe_tup (pa_cons (pe_tup (pa_cons (pv 9) (pa_cons (pv 10) (pa_cons (pv 11) pa_nil)))) (pa_cons (pe_tup (pa_cons (pe_c (ok_draw T) hr (by decide) (pa_cons (pv 0) (pa_cons (pe_callB call_len_seq (by rfl) (T.free "len") PySem.boot_len (pa_cons (pv 3) pa_nil)) pa_nil))) pa_nil)) (pa_cons (pe_tup pa_nil) pa_nil))))
            (pg_tup (by rfl) (pgs_cons (pg_sub (pv 12) pe_str (set_dict hu)) (pgs_cons (pg_sub (pv 12) pe_str (set_dict hu)) (pgs_cons (pg_sub (pv 12) pe_str (set_dict hu)) pgs_nil)))))
        (pss_one (ps_expr (pe_bm PySem.F.plainAttrs_list PySem.F.slot_list_append PySem.F.type_list_append mt_append (pv 5) (pa_cons (pe_op op_catT (pe_tup (pa_cons (pv 8) pa_nil)) (pe_dget2 hu (pv 12) (pv 8) (pe_tup (pa_cons (pv 9) pa_nil)) ⟨rfl, rfl, rfl, rfl⟩)) pa_nil)))))))))))
      (pss_one (ps_ret (pe_disp (pps_cons pe_str (pv 2) (pps_cons pe_str (pv 3) (pps_cons pe_str (pv 5) pps_nil))) (by rfl) (by rfl) (fun z => by cases z) (by decide))))))), ?_⟩
    refine ⟨_, rfl, _, rfl, c, q, n, 3, rfl, pen, by omega, by decide, by decide, fun H1 r1 s1 p1 a0 a1 => ⟨_, _, rfl, rfl, c, q, n + 1, _, rfl, p1, by omega, by omega, by omega, fun H2 lr rs s2 p2 hlr hrl hrd hrn => ?_⟩⟩
    refine ⟨_, rfl, _, rfl, c, q, n + 1 + 60, 3, rfl, p2, by omega, by decide, by decide, fun H3 r2 s3 p3 b0 b1 => ⟨_, _, rfl, rfl, c, q, n + 1 + 60 + 1, _, rfl, p3, by omega, by omega, by omega, fun H4 lc cs s4 p4 hlc hcl hcd hcn => ?_⟩⟩
    refine ⟨_, rfl, _, rfl, _, _, rfl, rfl, c, q, n + 1 + 60 + 1 + 60, _, rfl, p4, by omega, by decide, by decide, fun H5 r3 s5 p5 d0 d1 => ⟨_, _, rfl, ?_⟩⟩
    have hlr5 : H5 lr = some (.lst (rs.map tx)) := s5.lst p4 (s4.lst p3 (s3.lst p2 hlr))
    have hlc5 : H5 lc = some (.lst (cs.map tx)) := s5.lst p4 hlc
    have s05 : Sm q H H5 := s1.trans (s2.trans (s3.trans (s4.trans s5)))
    clear hlr hlc s1 s2 s3 s4 s5 p1 p2 p3 p4
    refine ⟨Nat.zero_le _, fun lo hlo => ?_⟩
    have nlrlo : lr ≠ lo := ne_of_none hlr5 hlo
    have nlclo : lc ≠ lo := ne_of_none hlc5 hlo
    have nlrq : lr ≠ q := p5.ne hlr5 (fun _ z => by cases z)
    have nlcq : lc ≠ q := p5.ne hlc5 (fun _ z => by cases z)
    have nloq : lo ≠ q := p5.ne_none hlo
    refine ⟨_, rfl, r3, rfl, by omega, by omega, for_range (lo := 0) (n := r3.toNat) (fun i σ H' => ∃ (v6 v7 v8 v9 v10 v11 v12 : Option V) (os : List (Str × List Int)), σ = [some (.ref q), some (.int 4), some (.ref lr), some (.ref lc), some (.int r3), some (.ref lo), v6, v7, v8, v9, v10, v11, v12] ∧
        Sm q H5 H' ∧ PenAt c q (n + 123 + 6 * i) H' ∧ os.length = i ∧ (∀ o ∈ os, OrdOk rs.length cs.length r3.toNat o) ∧ OrdsAt H' lo os) ?_ ?_ ?_⟩
    · exact ⟨none, none, none, none, none, none, none, [], rfl, (Sm.refl H5).new hlo, p5.upd hlo, rfl, fun _ h => absurd h List.not_mem_nil, [], upd_same, .nil⟩
    · rintro i σ H' hi ⟨v6, v7, v8, v9, v10, v11, v12, os, rfl, sm, pn, rfl, hok, ts, hts, hpr⟩
      have hlr' : H' lr = some (.lst (rs.map tx)) := sm _ _ nlrq hlr5
      have hlc' : H' lc = some (.lst (cs.map tx)) := sm _ _ nlcq hlc5
      have hol : os.length < 5 := by omega
      -- words = [..]
      refine ⟨by show 10 ≤ sizeLine; decide, fun p1 hp1 => ?_⟩
      -- word = pick(pen, words + [..])
      refine ⟨_, rfl, _, rfl, by show 2 ≤ sizeLine; decide, fun p2 hp2 => ⟨p1, p2, _, _, rfl, rfl, by rw [upd_ne (ne_of_none upd_same hp2)]; exact upd_same, upd_same, by show 12 ≤ sizeLine; decide, fun p3 hp3 => ?_⟩⟩
      refine ⟨c, q, p3, n + 123 + 6 * os.length, _, rfl, ((pn.upd hp1).upd hp2).upd hp3, by omega, SqL.of upd_same, by show 0 < 12; decide, by show 12 ≤ 1000; decide, fun H8 x s8 q8 hx => ?_⟩
      have s08 : Sm q H' H8 := ((((Sm.refl H').new hp1).trans ((Sm.refl _).new hp2)).trans ((Sm.refl _).new hp3)).trans s8
      clear s8 hp1 hp2 hp3
      obtain ⟨wd, rfl, hwd⟩ : ∃ wd : Str, x = .str wd ∧ (wd = "inc" ∨ wd = "dec" ∨ wd = "clear" ∨ wd = "add" ∨ wd = "copy" ∨ wd = "jump" ∨ wd = "ifzero" ∨ wd = "ifsame" ∨ wd = "paint" ∨ wd = "end") := by
        simp only [List.mem_append, List.mem_cons, List.not_mem_nil, or_false] at hx
        rcases hx with (rfl | rfl | rfl | rfl | rfl | rfl | rfl | rfl | rfl | rfl) | (rfl | rfl) <;> exact ⟨_, rfl, by simp⟩
      have hlr8 := s08.lst pn hlr'
      -- one, two = draw(..), draw(..)
      refine ⟨_, rfl, _, rfl, lr, _, rfl, .inl (SqL.of hlr8), c, q, n + 123 + 6 * os.length + 1, _, rfl, q8, by omega, by rw [List.length_map]; omega, by rw [List.length_map]; omega, fun H9 one s9 q9 o0 o1 => ?_⟩
      have hlr9 := s9.lst q8 hlr8
      refine ⟨_, rfl, _, rfl, lr, _, rfl, .inl (SqL.of hlr9), c, q, n + 123 + 6 * os.length + 1 + 1, _, rfl, q9, by omega, by rw [List.length_map]; omega, by rw [List.length_map]; omega, fun H10 two s10 q10 w0 w1 => ⟨_, _, rfl, ?_⟩⟩
      rw [List.length_map] at o1 w1
      have s010 : Sm q H' H10 := s08.trans (s9.trans s10)
      have hlo10 := s010.lst pn hts
      -- place
      refine ⟨_, rfl, _, rfl, lo, _, rfl, .inl (SqL.of hlo10), _, _, rfl, rfl, _, rfl, _, rfl, _, rfl, _, _, rfl, rfl, c, q, n + 123 + 6 * os.length + 1 + 1 + 1, _, rfl, q10, by omega, by omega, by omega, fun H11 rr s11 q11 e0 e1 => ?_⟩
      refine ⟨by show 3 ≤ sizeLine; decide, fun p4 hp4 => ?_⟩
      refine ⟨c, q, p4, n + 123 + 6 * os.length + 1 + 1 + 1 + 1, _, rfl, q11.upd hp4, by omega, SqL.of upd_same, by show 0 < 3; decide, by show 3 ≤ 1000; decide, fun H12 y s12 q12 hy => ?_⟩
      have s012 : Sm q H' H12 := s010.trans (s11.trans (((Sm.refl _).new hp4).trans s12))
      obtain ⟨pl, rfl, pl0, pl1⟩ : ∃ pl : Int, y = .int pl ∧ 0 ≤ pl ∧ pl ≤ (r3.toNat : Int) := by
        have hlen : ts.length = os.length := hpr.length
        simp only [List.mem_cons, List.not_mem_nil, or_false] at hy
        rcases hy with rfl | rfl | rfl
        · exact ⟨_, rfl, by omega, by rw [List.length_map]; omega⟩
        · exact ⟨_, rfl, by omega, by omega⟩
        · exact ⟨_, rfl, e0, by omega⟩
      clear hy s11 s12 q11 q10 q9 q8 s9 s10 s08 hlr8 hlr9 hlo10 hp4 s010
      have hlc12 := s012.lst pn hlc'
      have hts12 := s012.lst pn hts
      -- more = {..}
      refine fun dm hdm => ⟨_, rfl, _, rfl, by show 2 ≤ sizeLine; decide, fun t1 ht1 => ⟨_, rfl, _, rfl, by show 2 ≤ sizeLine; decide, fun t2 ht2 => ⟨_, rfl, by show 1 ≤ sizeLine; decide, fun t3 ht3 => ⟨_, rfl, _, rfl, by show 2 ≤ sizeLine; decide, fun t4 ht4 => ?_⟩⟩⟩⟩
      have S2 := same_upd (o := .tup [.int one, .int two]) ht2
      have S3 := same_upd (o := .tup [.int pl]) ht3
      have S4 := same_upd (o := .tup [.int one, .int pl]) ht4
      have f1 := S4 _ _ (S3 _ _ (S2 _ _ (upd_same (H := upd H12 dm (.dK [])) (a := t1) (o := .tup [.int one, .int two]))))
      have f2 := S4 _ _ (S3 _ _ (upd_same (H := upd (upd H12 dm (.dK [])) t1 (.tup [.int one, .int two])) (a := t2) (o := .tup [.int one, .int two])))
      have f3 := S4 _ _ (upd_same (H := upd (upd (upd H12 dm (.dK [])) t1 (.tup [.int one, .int two])) t2 (.tup [.int one, .int two])) (a := t3) (o := .tup [.int pl]))
      have f4 := upd_same (H := upd (upd (upd (upd H12 dm (.dK [])) t1 (.tup [.int one, .int two])) t2 (.tup [.int one, .int two])) t3 (.tup [.int pl])) (a := t4) (o := .tup [.int one, .int pl])
      have fd := S4 _ _ (S3 _ _ (S2 _ _ (same_upd (o := .tup [.int one, .int two]) ht1 _ _ (upd_same (H := H12) (a := dm) (o := .dK [])))))
      have smA : Sm q H12 _ := ((((Sm.refl H12).new hdm).trans ((Sm.refl _).new ht1)).trans (Sm.of S2)).trans ((Sm.of S3).trans (Sm.of S4))
      have pnA := ((((q12.upd (o := .dK []) hdm).upd ht1).upd (o := .tup [.int one, .int two]) ht2).upd (o := .tup [.int pl]) ht3).upd (o := .tup [.int one, .int pl]) ht4
      refine ⟨fd, mk4 t1 t2 t3 t4, rfl, by show 4 ≤ 15; decide, ?_⟩
      rw [mk4_merge]
      have ndq : dm ≠ q := q12.ne_none hdm
      have pnB := pnA.new (o := .dK (mk4 t1 t2 t3 t4)) q12 hdm
      have smB := smA.new (o := .dK (mk4 t1 t2 t3 t4)) hdm
      have ab : ∀ {t : Addr} {xs : List V}, upd (upd (upd (upd (upd H12 dm (.dK [])) t1 (.tup [.int one, .int two])) t2 (.tup [.int one, .int two])) t3 (.tup [.int pl])) t4 (.tup [.int one, .int pl]) t = some (.tup xs) → upd (upd (upd (upd (upd (upd H12 dm (.dK [])) t1 (.tup [.int one, .int two])) t2 (.tup [.int one, .int two])) t3 (.tup [.int pl])) t4 (.tup [.int one, .int pl])) dm (.dK (mk4 t1 t2 t3 t4)) t = some (.tup xs) := fun {t xs} h => by
        rw [upd_ne (ne_of h fd (by intro z; cases z))]
        exact h
      have g1 := ab f1
      have g2 := ab f2
      have g3 := ab f3
      have g4 := ab f4
      have gd := upd_same (H := upd (upd (upd (upd (upd H12 dm (.dK [])) t1 (.tup [.int one, .int two])) t2 (.tup [.int one, .int two])) t3 (.tup [.int pl])) t4 (.tup [.int one, .int pl])) (a := dm) (o := .dK (mk4 t1 t2 t3 t4))
      generalize upd (upd (upd (upd (upd (upd H12 dm (.dK [])) t1 (.tup [.int one, .int two])) t2 (.tup [.int one, .int two])) t3 (.tup [.int pl])) t4 (.tup [.int one, .int pl])) dm (.dK (mk4 t1 t2 t3 t4)) = HB at pnB smB g1 g2 g3 g4 gd ⊢
      clear ab f1 f2 f3 f4 fd S2 S3 S4 smA pnA ht1 ht2 ht3 ht4
      have hlcB := smB.lst q12 hlc12
      have htsB := smB.lst q12 hts12
      -- more[..], more[..], more[..] = ..
      refine ⟨_, rfl, _, rfl, _, rfl, by show 3 ≤ sizeLine; decide, fun t5 ht5 => ?_⟩
      have S5 := same_upd (o := .tup [.int one, .int two, .int pl]) ht5
      refine ⟨_, rfl, _, rfl, lc, _, rfl, .inl (SqL.of (S5 _ _ hlcB)), c, q, n + 123 + 6 * os.length + 1 + 1 + 1 + 1 + 1, _, rfl, pnB.upd ht5, by omega, by rw [List.length_map]; omega, by rw [List.length_map]; omega, fun H13 k s13 q13 k0 k1 => ?_⟩
      rw [List.length_map] at k1
      have keep : ∀ {t : Addr} {xs : List V}, HB t = some (.tup xs) → H13 t = some (.tup xs) := fun h => s13.tup (pnB.upd ht5) (S5 _ _ h)
      have g5 := s13.tup (pnB.upd ht5) (upd_same (H := HB) (a := t5) (o := .tup [.int one, .int two, .int pl]))
      have gd13 := s13 _ _ ndq (S5 _ _ gd)
      have sm13 : Sm q H12 H13 := smB.trans ((Sm.of S5).trans s13)
      have htsC := s13.lst (pnB.upd ht5) (S5 _ _ htsB)
      refine ⟨by show 1 ≤ sizeLine; decide, fun t6 ht6 => ⟨Nat.zero_le _, fun t7 ht7 => ⟨by show 3 ≤ sizeLine; decide, fun tT hT => ?_⟩⟩⟩
      have S6 := same_upd (o := .tup [.int k]) ht6
      have S7 := same_upd (o := .tup []) ht7
      have S8 := same_upd (o := .tup [.ref t5, .ref t6, .ref t7]) hT
      have S68 : Same H13 _ := (S6.trans S7).trans S8
      have g6 := S8 _ _ (S7 _ _ (upd_same (H := H13) (a := t6) (o := .tup [.int k])))
      have g7 := S8 _ _ (upd_same (H := upd H13 t6 (.tup [.int k])) (a := t7) (o := .tup []))
      refine ⟨tT, _, rfl, SqT.of upd_same, rfl, _, _, rfl, _, rfl, dm, _, rfl, DPut.k (k := .inr ("ifsame" : Str)) (S68 _ _ gd13) (by show 4 < sizeLine; decide), _, _, rfl, _, rfl, dm, _, rfl, DPut.k (k := .inr ("paint" : Str)) upd_same (Nat.lt_of_le_of_lt (length_putK _ _ _) (by show 4 + 1 < sizeLine; decide)),
        _, _, rfl, _, rfl, dm, _, rfl, DPut.k (k := .inr ("end" : Str)) upd_same (Nat.lt_of_le_of_lt (length_putK _ _ _) (Nat.lt_of_le_of_lt (Nat.succ_le_succ (length_putK _ _ _)) (by show 4 + 1 + 1 < sizeLine; decide))), rfl, ?_⟩
      rw [upd_upd, upd_upd, mk7_put]
      have pnC := (((q13.upd ht6).upd ht7).upd (o := .tup [.ref t5, .ref t6, .ref t7]) hT).new (o := .dK (mk7 t1 t2 t3 t4 t5 t6 t7)) q12 hdm
      have smC := (sm13.trans (Sm.of S68)).new (o := .dK (mk7 t1 t2 t3 t4 t5 t6 t7)) hdm
      have ab : ∀ {t : Addr} {xs : List V}, upd (upd (upd H13 t6 (.tup [.int k])) t7 (.tup [])) tT (.tup [.ref t5, .ref t6, .ref t7]) t = some (.tup xs) → upd (upd (upd (upd H13 t6 (.tup [.int k])) t7 (.tup [])) tT (.tup [.ref t5, .ref t6, .ref t7])) dm (.dK (mk7 t1 t2 t3 t4 t5 t6 t7)) t = some (.tup xs) := fun {t xs} h => by
        rw [upd_ne (ne_of h (S68 _ _ gd13) (by intro z; cases z))]
        exact h
      have g1 := ab (S68 _ _ (keep g1))
      have g2 := ab (S68 _ _ (keep g2))
      have g3 := ab (S68 _ _ (keep g3))
      have g4 := ab (S68 _ _ (keep g4))
      have g5 := ab (S68 _ _ g5)
      have g6 := ab g6
      have g7 := ab g7
      have gd := upd_same (H := upd (upd (upd H13 t6 (.tup [.int k])) t7 (.tup [])) tT (.tup [.ref t5, .ref t6, .ref t7])) (a := dm) (o := .dK (mk7 t1 t2 t3 t4 t5 t6 t7))
      generalize upd (upd (upd (upd H13 t6 (.tup [.int k])) t7 (.tup [])) tT (.tup [.ref t5, .ref t6, .ref t7])) dm (.dK (mk7 t1 t2 t3 t4 t5 t6 t7)) = HC at pnC smC g1 g2 g3 g4 g5 g6 g7 gd ⊢
      clear ab S5 S6 S7 S8 S68 keep ht5 ht6 ht7 hT pnB smB gd13 htsB hlcB sm13 q13
      have htsC := smC.lst q12 hts12
      have smD : Sm q H' HC := s012.trans smC
      -- orders.append((word,) + more.get(word, (one,)))
      refine ⟨_, rfl, .inl ⟨rfl, _, SqL.of htsC⟩, ?_⟩
      refine ⟨_, rfl, by show 1 ≤ sizeLine; decide, fun tw htw => ?_⟩
      have S9 := same_upd (o := .tup [.str wd]) htw
      refine ⟨_, rfl, dm, rfl, .inl ⟨_, .inl (S9 _ _ gd)⟩, _, rfl, _, rfl, by show 1 ≤ sizeLine; decide, fun td htd => ?_⟩
      have S10 := same_upd (o := .tup [.int one]) htd
      have S11 : Same HC _ := S9.trans S10
      refine ⟨_, DGet.k (k := .inr wd) (S11 _ _ gd), ?_⟩
      have ftd := upd_same (H := upd HC tw (.tup [.str wd])) (a := td) (o := .tup [.int one])
      have ftw := S10 _ _ (upd_same (H := HC) (a := tw) (o := .tup [.str wd]))
      obtain ⟨b, as, hb, hbt, hbo⟩ : ∃ (b : Addr) (as : List Int), (valV (mk7 t1 t2 t3 t4 t5 t6 t7) (.inr wd)).getD (.ref td) = .ref b ∧ upd (upd HC tw (.tup [.str wd])) td (.tup [.int one]) b = some (.tup (as.map V.int)) ∧ OrdOk rs.length cs.length r3.toNat (wd, as) := by
        rcases hwd with rfl | rfl | rfl | rfl | rfl | rfl | rfl | rfl | rfl | rfl
        · exact ⟨td, [one], by rw [mk7_inc] <;> rfl, ftd, .one (.inl rfl) o0 o1⟩
        · exact ⟨td, [one], by rw [mk7_dec] <;> rfl, ftd, .one (.inr (.inl rfl)) o0 o1⟩
        · exact ⟨td, [one], by rw [mk7_clear] <;> rfl, ftd, .one (.inr (.inr rfl)) o0 o1⟩
        · exact ⟨t1, [one, two], by rw [mk7_add] <;> rfl, S11 _ _ g1, .two (.inl rfl) o0 o1 w0 w1⟩
        · exact ⟨t2, [one, two], by rw [mk7_copy] <;> rfl, S11 _ _ g2, .two (.inr rfl) o0 o1 w0 w1⟩
        · exact ⟨t3, [pl], by rw [mk7_jump] <;> rfl, S11 _ _ g3, .jump pl0 pl1⟩
        · exact ⟨t4, [one, pl], by rw [mk7_ifzero] <;> rfl, S11 _ _ g4, .ifz o0 o1 pl0 pl1⟩
        · exact ⟨t5, [one, two, pl], by rw [mk7_ifsame] <;> rfl, S11 _ _ g5, .ifs o0 o1 w0 w1 pl0 pl1⟩
        · exact ⟨t6, [k], by rw [mk7_paint] <;> rfl, S11 _ _ g6, .paint k0 k1⟩
        · exact ⟨t7, [], by rw [mk7_end] <;> rfl, S11 _ _ g7, .stop⟩
      rw [hb]
      have pnE := (pnC.upd htw).upd (o := .tup [.int one]) htd
      have smE : Sm q H' _ := smD.trans (Sm.of S11)
      have htsE := S11 _ _ htsC
      have hlen : ts.length = os.length := hpr.length
      have fin : ∀ (HF : Hp) (t : Addr), Sm q H' HF → PenAt c q (n + 123 + 6 * (os.length + 1)) HF → HF lo = some (.lst (ts.map V.ref)) → HF t = some (.tup (ordV (wd, as))) → ∃ (v6 v7 v8 v9 v10 v11 v12 : Option V) (os' : List (Str × List Int)), [some (V.ref q), some (.int 4), some (.ref lr), some (.ref lc), some (.int r3), some (.ref lo), some (.int (0 + (os.length : Int))), some (.ref p1), some (.str wd), some (.int one), some (.int two), some (.int pl), some (.ref dm)] = [some (.ref q), some (.int 4), some (.ref lr), some (.ref lc), some (.int r3), some (.ref lo), v6, v7, v8, v9, v10, v11, v12] ∧
          Sm q H5 (upd HF lo (.lst (ts.map V.ref ++ [.ref t]))) ∧ PenAt c q (n + 123 + 6 * (os.length + 1)) (upd HF lo (.lst (ts.map V.ref ++ [.ref t]))) ∧ os'.length = os.length + 1 ∧ (∀ o ∈ os', OrdOk rs.length cs.length r3.toNat o) ∧ OrdsAt (upd HF lo (.lst (ts.map V.ref ++ [.ref t]))) lo os' := fun HF t sF pF hF ht => by
        have nt : ∀ {t' : Addr} {xs : List V}, HF t' = some (.tup xs) → upd HF lo (.lst (ts.map V.ref ++ [.ref t])) t' = some (.tup xs) := fun {t' xs} h => by
          rw [upd_ne (ne_of h hF (by intro z; cases z))]
          exact h
        refine ⟨_, _, _, _, _, _, _, os ++ [(wd, as)], rfl, (sm.trans sF).new hlo, pF.new p5 hlo, by simp, fun o ho => ?_, ts ++ [t], by rw [upd_same, List.map_append] <;> rfl, paired_snoc (L2.Paired.mapP hpr fun t' o h => nt (sF.tup pn h)) (nt ht)⟩
        rcases List.mem_append.mp ho with ho | ho
        · exact hok o ho
        · rw [List.mem_singleton.mp ho]
          exact hbo
      have hl3 := hbo.len
      refine ⟨tw, b, _, _, rfl, rfl, SqT.of ftw, SqT.of hbt, List.cons_ne_nil _ _, ?_, fun he => ?_, fun he p hp => ?_⟩
      · rw [List.length_map, sizeLine_eq]
        show 1 + as.length ≤ 16777216
        have h3 : as.length ≤ 3 := hl3
        omega
      · have he2 : as = [] := List.map_eq_nil_iff.mp he
        subst he2
        exact ⟨lo, _, _, rfl, rfl, htsE, by rw [List.length_map]; exact small1000 (by omega), fin _ tw smE (pnE.mono (by omega)) htsE ftw⟩
      · have S12 := same_upd (o := .tup ([V.str wd] ++ as.map V.int)) hp
        exact ⟨lo, _, _, rfl, rfl, S12 _ _ htsE, by rw [List.length_map]; exact small1000 (by omega), fin _ p (smE.trans (Sm.of S12)) ((pnE.upd hp).mono (by omega)) (S12 _ _ htsE) upd_same⟩
    · rintro σ H' ⟨v6, v7, v8, v9, v10, v11, v12, os, rfl, sm, pn, hol, hok, ho⟩
      have hlr' : H' lr = some (.lst (rs.map tx)) := sm _ _ nlrq hlr5
      have hlc' : H' lc = some (.lst (cs.map tx)) := sm _ _ nlcq hlc5
      refine fun d hd => ⟨_, rfl, _, rfl, _, rfl, upd_same, dk lr lc lo, rfl, by show 3 ≤ 15; decide, ?_⟩
      rw [upd_upd, dk_merge]
      have sd : Sm q H' (upd H' d (.dK (dk lr lc lo))) := (Sm.refl H').new hd
      obtain ⟨ts, h1, h2⟩ := ho
      refine go _ d rs cs os (s05.trans (sm.trans sd)) ((pn.upd hd).mono (by omega)) ⟨lr, lc, lo, upd_same, sd.lst pn hlr', sd.lst pn hlc', ts, sd.lst pn h1, L2.Paired.mapP h2 fun t o h => sd.tup pn h⟩ ?_ (pn.ne_none hd)
      exact ⟨by omega, by omega, hrd, hrn, by omega, by omega, hcd, hcn, by omega, by rw [hol]; exact hok⟩
end
end Tg

-- part KG
set_option Elab.async false
set_option linter.all false
set_option maxRecDepth 100000
set_option maxHeartbeats 4000000
namespace Tg
open PySem PySem.Spec PyProof.Rows L2 TgM
theorem iteN {c : Bool} {A B : Prop} (h : c = false) (hb : B) : if c = true then A else B := by
  rw [h]
  exact iteF hb
theorem iteY {c : Bool} {A B : Prop} (h : c = true) (ha : A) : if c = true then A else B := by
  rw [h]
  exact iteT ha
theorem paired_app {α β : Type} {R : α → β → Prop} : ∀ {xs xs' : List α} {ys ys' : List β}, Paired R xs ys → Paired R xs' ys' → Paired R (xs ++ xs') (ys ++ ys')
  | _, _, _, _, .nil, r => r
  | _, _, _, _, .cons a t, r => .cons a (paired_app t r)
theorem paired_rep {α β : Type} {R : α → β → Prop} {x : α} {y : β} : ∀ n : Nat, R x y → Paired R (List.replicate n x) (List.replicate n y)
  | 0, _ => .nil
  | n + 1, r => .cons r (paired_rep n r)
/-! ### _law_loop -/
section
variable {P : Program} {w : World} {K : PySem.W.Frag} {mg : Str → Option Value} {base : Heap}
abbrev nmLoop : List Str := ["_law_pen_here", "_law_registers", "_law_colours", "_law_inner", "_law_many", "_law_lap", "_law_word", "_law_one", "_law_two", "_law_end", "_law_orders"]
def spLoop : Sp := fun vs H Q _ => ∃ (c q : Addr) (n : Nat), vs = [.ref q] ∧ PenAt c q n H ∧ n < 2 ^ 37 ∧
  ∀ (H' : Hp) (d : Addr) (rs cs : List (List Nat)) (os : List (Str × List Int)), Sm q H H' → PenAt c q (n + 200) H' → DrawnAt H' d rs cs os → Good rs cs os → d ≠ q → Q (.ref d) H'
theorem scLoop : FnScope nmLoop ["_law_pen_here"] (defScope (top 56)) := ⟨rfl, rfl, rfl, by decide +kernel, rfl, by decide +kernel, by decide +kernel⟩
theorem ok_loop (T : Txt K mg w) : Cal P w K mg base 5 "_law_loop" spLoop := by
  refine cal_of (N := nmLoop) (ps := ["_law_pen_here"]) (T.d 24) scLoop (fun _ _ _ _ _ _ us hl => match us, hl with | [_], _ => rfl) (fun vs H Q E h => ?_) (fun f0 cdv A outer s H vs Q E hr h => ?_)
  · obtain ⟨c, q, n, rfl, _⟩ := h
    rfl
  · obtain ⟨c, q, n, rfl, pen, hn, go⟩ := h
    have nd := scLoop.nd
    have hu := hu_of hr
    refine ⟨_, pss_cons (ps_par (i := 1) (j := 2) (by rfl) nd rfl rfl (by decide) rfl rfl (pa_cons (pe_c (ok_names T) hr (by decide) (pa_cons (pv 0) (pa_cons (pe_op op_add pe_int (pe_c (ok_draw T) hr (by decide) (pa_cons (pv 0) (pa_cons pe_int pa_nil)))) pa_nil)))
          (pa_cons (pe_c (ok_names T) hr (by decide) (pa_cons (pv 0) (pa_cons (pe_op op_add pe_int (pe_c (ok_draw T) hr (by decide) (pa_cons (pv 0) (pa_cons pe_int pa_nil)))) pa_nil))) pa_nil)) (by rfl))
      (pss_cons (ps_par (i := 3) (j := 4) (by rfl) nd rfl rfl (by decide) rfl rfl (pa_cons (pe_lst pa_nil) (pa_cons (pe_op op_add pe_int (pe_c (ok_draw T) hr (by decide) (pa_cons (pv 0) (pa_cons pe_int pa_nil)))) pa_nil)) (by rfl))
      (pss_cons (ps_for PassesOwn.never rfl (pi_range1 rfl (T.free "range") (pa_cons (pv 4) pa_nil)) (pg_name (i := 5) nd rfl (.inl rfl))
        (pss_cons (ps_set (i := 6) nd rfl (.inl rfl) (pe_c (ok_pick T) hr (by decide) (pa_cons (pv 0) (pa_cons (pe_lst (pa_cons pe_str (pa_cons pe_str (pa_cons pe_str (pa_cons pe_str (pa_cons pe_str (pa_cons pe_str (pa_cons pe_str pa_nil)))))))) pa_nil))))
        (pss_cons (ps_set (i := 7) nd rfl (.inl rfl) (pe_callB (cr_max rfl) (by rfl) (T.free "max") (by decide +kernel) (pa_cons (pe_lst (pa_cons (pe_c (ok_draw T) hr (by decide) (pa_cons (pv 0) (pa_cons (pe_callB call_len_seq (by rfl) (T.free "len") PySem.boot_len (pa_cons (pv 1) pa_nil)) pa_nil)))
          (pa_cons (pe_callB (cr_min rfl) (by rfl) (T.free "min") (by decide +kernel) (pa_cons (pe_lst (pa_cons pe_int (pa_cons (pe_op op_sub (pe_callB call_len_seq (by rfl) (T.free "len") PySem.boot_len (pa_cons (pv 1) pa_nil)) pe_int) pa_nil))) pa_nil)) pa_nil))) pa_nil)))
        (pss_cons (ps_set (i := 8) nd rfl (.inl rfl) (pe_c (ok_draw T) hr (by decide) (pa_cons (pv 0) (pa_cons (pe_callB call_len_seq (by rfl) (T.free "len") PySem.boot_len (pa_cons (pv 1) pa_nil)) pa_nil))))
        (pss_one (ps_if (PW.pt (pw_or (pt_cmpR op_eq (pe_callB call_len_seq (by rfl) (T.free "len") PySem.boot_len (pa_cons (pv 1) pa_nil)) pe_int (nomark _)) (pw_or1 (pt_cmpR op_eq (pv 6) pe_str (nomark _)))))
          (pss_one (ps_expr (pe_bm PySem.F.plainAttrs_list PySem.F.slot_list_append PySem.F.type_list_append mt_append (pv 3) (pa_cons (pe_tup (pa_cons pe_str (pa_cons (pe_c (ok_draw T) hr (by decide) (pa_cons (pv 0) (pa_cons (pe_callB call_len_seq (by rfl) (T.free "len") PySem.boot_len (pa_cons (pv 2) pa_nil)) pa_nil))) pa_nil))) pa_nil))))
          (pss_one (ps_expr (pe_bm PySem.F.plainAttrs_list PySem.F.slot_list_append PySem.F.type_list_append mt_append (pv 3) (pa_cons (pe_ifExp (pt_cmpR op_in_seq (pv 6) (pe_lst (pa_cons pe_str (pa_cons pe_str pa_nil))) (by rfl)) (pe_tup (pa_cons (pv 6) (pa_cons (pv 7) (pa_cons (pv 8) pa_nil)))) (pe_tup (pa_cons (pv 6) (pa_cons (pv 7) pa_nil)))) pa_nil))))))))))
      (pss_cons (ps_set (i := 9) nd rfl (.inl rfl) (pe_op op_add (pv 4) pe_int))
      (pss_cons (ps_set (i := 10) nd rfl (.inl rfl) (pe_op op_cat (pe_op op_cat (pe_lst (pa_cons (pe_tup (pa_cons pe_str (pa_cons pe_int (pa_cons (pv 9) pa_nil)))) pa_nil)) (pv 3)) (pe_lst (pa_cons (pe_tup (pa_cons pe_str (pa_cons pe_int pa_nil))) (pa_cons (pe_tup (pa_cons pe_str (pa_cons pe_int pa_nil))) pa_nil)))))
      (pss_one (ps_ret (pe_disp (pps_cons pe_str (pv 1) (pps_cons pe_str (pv 2) (pps_cons pe_str (pe_op op_cat (pv 10) (pe_op op_rep (pe_lst (pa_cons (pe_tup (pa_cons pe_str (pa_cons pe_int pa_nil))) pa_nil)) (pe_c (ok_draw T) hr (by decide) (pa_cons (pv 0) (pa_cons pe_int pa_nil))))) pps_nil))) (by rfl) (by rfl) (fun z => by cases z) (by decide)))))))), ?_⟩
    refine ⟨_, rfl, _, rfl, c, q, n, 3, rfl, pen, by omega, by decide, by decide, fun H1 r1 s1 p1 a0 a1 => ⟨_, _, rfl, rfl, c, q, n + 1, _, rfl, p1, by omega, by omega, by omega, fun H2 lr rs s2 p2 hlr hrl hrd hrn => ?_⟩⟩
    refine ⟨_, rfl, _, rfl, c, q, n + 1 + 60, 3, rfl, p2, by omega, by decide, by decide, fun H3 r2 s3 p3 b0 b1 => ⟨_, _, rfl, rfl, c, q, n + 1 + 60 + 1, _, rfl, p3, by omega, by omega, by omega, fun H4 lc cs s4 p4 hlc hcl hcd hcn => ⟨_, _, rfl, ?_⟩⟩⟩
    have hlr4 : H4 lr = some (.lst (rs.map tx)) := s4.lst p3 (s3.lst p2 hlr)
    have s04 : Sm q H H4 := s1.trans (s2.trans (s3.trans s4))
    clear hlr s1 s2 s3 s4 p1 p2 p3
    refine ⟨Nat.zero_le _, fun li hli => ⟨_, rfl, c, q, n + 1 + 60 + 1 + 60, 3, rfl, p4.upd hli, by omega, by decide, by decide, fun H5 r3 s5 p5 d0 d1 => ⟨_, _, rfl, rfl, _, _, rfl, ?_⟩⟩⟩
    have nlrq : lr ≠ q := p4.ne hlr4 (fun _ z => by cases z)
    have nlcq : lc ≠ q := p4.ne hlc (fun _ z => by cases z)
    have nliq : li ≠ q := p4.ne_none hli
    have s45 : Sm q H4 H5 := ((Sm.refl H4).new hli).trans s5
    have hli5 : H5 li = some (.lst []) := s5 _ _ nliq upd_same
    refine ⟨_, rfl, 1 + r3, rfl, by omega, by omega, for_range (lo := 0) (n := (1 + r3).toNat) (fun i σ H' => ∃ (v5 v6 v7 v8 : Option V) (os : List (Str × List Int)), σ = [some (.ref q), some (.ref lr), some (.ref lc), some (.ref li), some (.int (1 + r3)), v5, v6, v7, v8, none, none] ∧
        Sm q H4 H' ∧ PenAt c q (n + 123 + 4 * i) H' ∧ os.length = i ∧ (∀ o ∈ os, ∀ no, OrdOk rs.length cs.length no o) ∧ OrdsAt H' li os) ?_ ?_ ?_⟩
    · exact ⟨none, none, none, none, [], rfl, s45, p5, rfl, fun _ h => absurd h List.not_mem_nil, [], hli5, .nil⟩
    · rintro i σ H' hi ⟨v5, v6, v7, v8, os, rfl, sm, pn, rfl, hok, ts, hts, hpr⟩
      have hlr' : H' lr = some (.lst (rs.map tx)) := sm _ _ nlrq hlr4
      have hlc' : H' lc = some (.lst (cs.map tx)) := sm _ _ nlcq hlc
      have hol : os.length < 4 := by omega
      refine ⟨_, rfl, by show 7 ≤ sizeLine; decide, fun p hp => ⟨c, q, p, n + 123 + 4 * os.length, _, rfl, pn.upd hp, by omega, SqL.of upd_same, by show 0 < 7; decide, by show 7 ≤ 1000; decide, fun H8 x s8 q8 hx => ?_⟩⟩
      have s08 : Sm q H' H8 := ((Sm.refl H').new hp).trans s8
      obtain ⟨wd, rfl, hwd⟩ : ∃ wd : Str, x = .str wd ∧ (wd = "inc" ∨ wd = "dec" ∨ wd = "clear" ∨ wd = "add" ∨ wd = "copy" ∨ wd = "paint") := by
        simp only [List.mem_cons, List.not_mem_nil, or_false] at hx
        rcases hx with rfl | rfl | rfl | rfl | rfl | rfl | rfl <;> exact ⟨_, rfl, by simp⟩
      have hlr8 := s08.lst pn hlr'
      -- one
      refine ⟨_, rfl, _, rfl, lr, _, rfl, .inl (SqL.of hlr8), c, q, n + 123 + 4 * os.length + 1, _, rfl, q8, by omega, by rw [List.length_map]; omega, by rw [List.length_map]; omega, fun H9 r s9 q9 o0 o1 => ?_⟩
      have hlr9 := s9.lst q8 hlr8
      rw [List.length_map] at o1
      refine ⟨_, rfl, lr, _, rfl, .inl (SqL.of hlr9), _, _, rfl, rfl, by show 2 ≤ sizeLine; decide, fun p5 hp5 => ⟨p5, [1, (((rs.map tx).length : Nat) : Int) - 1], rfl, SqL.of upd_same, by show 0 < 2; decide, fun mn hmn hle => ⟨by show 2 ≤ sizeLine; decide, fun p6 hp6 => ⟨p6, [r, mn], rfl, SqL.of upd_same, by show 0 < 2; decide, fun one hm hge => ?_⟩⟩⟩⟩
      have S6 := same_upd (o := .lst [.int 1, .int ((((rs.map tx).length : Nat) : Int) - 1)]) hp5
      have S7 := same_upd (o := .lst [.int r, .int mn]) hp6
      have q11 := (q9.upd (o := .lst [.int 1, .int ((((rs.map tx).length : Nat) : Int) - 1)]) hp5).upd (o := .lst [.int r, .int mn]) hp6
      have s011 : Sm q H' _ := (s08.trans s9).trans (Sm.of (S6.trans S7))
      have oneB : 0 ≤ one ∧ one < (rs.length : Int) := by
        rw [List.length_map] at hmn hle
        have h1 := hle 1 (by simp)
        have h2 := hle ((rs.length : Int) - 1) (by simp)
        have h3 : mn = 1 ∨ mn = (rs.length : Int) - 1 := by simpa using hmn
        have h4 : one = r ∨ one = mn := by simpa using hm
        have h5 := hge r (by simp)
        rcases h4 with rfl | rfl
        · exact ⟨o0, o1⟩
        · omega
      clear hge hm hle hmn
      generalize upd (upd H9 p5 (.lst [.int 1, .int ((((rs.map tx).length : Nat) : Int) - 1)])) p6 (.lst [.int r, .int mn]) = H11 at q11 s011 ⊢
      have hlr11 := s011.lst pn hlr'
      -- two
      refine ⟨_, rfl, _, rfl, lr, _, rfl, .inl (SqL.of hlr11), c, q, n + 123 + 4 * os.length + 1 + 1, _, rfl, q11, by omega, by rw [List.length_map]; omega, by rw [List.length_map]; omega, fun H12 two s12 q12 w0 w1 => ?_⟩
      rw [List.length_map] at w1
      have s012 : Sm q H' H12 := s011.trans s12
      have hlr12 := s012.lst pn hlr'
      have hlc12 := s012.lst pn hlc'
      have hts12 := s012.lst pn hts
      have hlen : ts.length = os.length := hpr.length
      have fin : ∀ (HF : Hp) (t : Addr) (od : Str × List Int), Sm q H' HF → PenAt c q (n + 123 + 4 * (os.length + 1)) HF → HF li = some (.lst (ts.map V.ref)) → HF t = some (.tup (ordV od)) → (∀ no, OrdOk rs.length cs.length no od) →
          ∃ (v5 v6 v7 v8 : Option V) (os' : List (Str × List Int)), [some (V.ref q), some (.ref lr), some (.ref lc), some (.ref li), some (.int (1 + r3)), some (.int (0 + (os.length : Int))), some (.str wd), some (.int one), some (.int two), none, none] = [some (V.ref q), some (.ref lr), some (.ref lc), some (.ref li), some (.int (1 + r3)), v5, v6, v7, v8, none, none] ∧
            Sm q H4 (upd HF li (.lst (ts.map V.ref ++ [.ref t]))) ∧ PenAt c q (n + 123 + 4 * (os.length + 1)) (upd HF li (.lst (ts.map V.ref ++ [.ref t]))) ∧ os'.length = os.length + 1 ∧ (∀ o ∈ os', ∀ no, OrdOk rs.length cs.length no o) ∧ OrdsAt (upd HF li (.lst (ts.map V.ref ++ [.ref t]))) li os' := fun HF t od sF pF hF ht hod => by
        have nt : ∀ {t' : Addr} {xs : List V}, HF t' = some (.tup xs) → upd HF li (.lst (ts.map V.ref ++ [.ref t])) t' = some (.tup xs) := fun {t' xs} h => by
          rw [upd_ne (ne_of h hF (by intro z; cases z))]
          exact h
        refine ⟨_, _, _, _, os ++ [od], rfl, (sm.trans sF).new hli, pF.new p4 hli, by simp, fun o ho => ?_, ts ++ [t], by rw [upd_same, List.map_append] <;> rfl, paired_snoc (L2.Paired.mapP hpr fun t' o h => nt (sF.tup pn h)) (nt ht)⟩
        rcases List.mem_append.mp ho with ho | ho
        · exact hok o ho
        · rw [List.mem_singleton.mp ho]
          exact hod
      refine ⟨_, rfl, lr, _, rfl, .inl (SqL.of hlr12), rfl, _, rfl, ?_⟩
      refine ite2 (fun _ => ?_) (fun _ => ⟨_, rfl, rfl, _, rfl, ite2 (fun _ => ?_) (fun hnp => ?_)⟩)
      · refine ⟨_, rfl, .inl ⟨rfl, _, SqL.of hts12⟩, _, rfl, _, rfl, lc, _, rfl, .inl (SqL.of hlc12), c, q, n + 123 + 4 * os.length + 1 + 1 + 1, _, rfl, q12, by omega, by rw [List.length_map]; omega, by rw [List.length_map]; omega, fun H13 k s13 q13 k0 k1 => ⟨by show 2 ≤ sizeLine; decide, fun t ht => ?_⟩⟩
        rw [List.length_map] at k1
        have S14 := same_upd (o := .tup [.str "paint", .int k]) ht
        exact ⟨li, _, _, rfl, rfl, S14 _ _ (s13.lst q12 hts12), by rw [List.length_map]; exact small1000 (by omega), fin _ t ("paint", [k]) (s012.trans (s13.trans (Sm.of S14))) ((q13.upd ht).mono (by omega)) (S14 _ _ (s13.lst q12 hts12)) upd_same fun no => .paint k0 k1⟩
      · refine ⟨_, rfl, .inl ⟨rfl, _, SqL.of hts12⟩, _, rfl, _, rfl, lc, _, rfl, .inl (SqL.of hlc12), c, q, n + 123 + 4 * os.length + 1 + 1 + 1, _, rfl, q12, by omega, by rw [List.length_map]; omega, by rw [List.length_map]; omega, fun H13 k s13 q13 k0 k1 => ⟨by show 2 ≤ sizeLine; decide, fun t ht => ?_⟩⟩
        rw [List.length_map] at k1
        have S14 := same_upd (o := .tup [.str "paint", .int k]) ht
        exact ⟨li, _, _, rfl, rfl, S14 _ _ (s13.lst q12 hts12), by rw [List.length_map]; exact small1000 (by omega), fin _ t ("paint", [k]) (s012.trans (s13.trans (Sm.of S14))) ((q13.upd ht).mono (by omega)) (S14 _ _ (s13.lst q12 hts12)) upd_same fun no => .paint k0 k1⟩
      · refine ⟨_, rfl, .inl ⟨rfl, _, SqL.of hts12⟩, _, rfl, by show 2 ≤ sizeLine; decide, fun p7 hp7 => ?_⟩
        have S13 := same_upd (o := .lst [.str "add", .str "copy"]) hp7
        have pn13 := q12.upd (o := .lst [.str "add", .str "copy"]) hp7
        refine ⟨p7, _, rfl, .inl (SqL.of upd_same), rfl, rfl, _, rfl, ?_⟩
        have one_ : ∀ (wd : Str), wd = "inc" ∨ wd = "dec" ∨ wd = "clear" → ∀ no, OrdOk rs.length cs.length no (wd, [one]) := fun wd h no => .one h oneB.1 oneB.2
        rcases hwd with rfl | rfl | rfl | rfl | rfl | rfl
        · refine iteN (by decide +kernel) ⟨_, rfl, _, rfl, by show 2 ≤ sizeLine; decide, fun t ht => ?_⟩
          have S14 := same_upd (o := .tup [.str "inc", .int one]) ht
          exact ⟨li, _, _, rfl, rfl, S14 _ _ (S13 _ _ hts12), by rw [List.length_map]; exact small1000 (by omega), fin _ t ("inc", [one]) (s012.trans (Sm.of (S13.trans S14))) ((pn13.upd ht).mono (by omega)) (S14 _ _ (S13 _ _ hts12)) upd_same (one_ _ (.inl rfl))⟩
        · refine iteN (by decide +kernel) ⟨_, rfl, _, rfl, by show 2 ≤ sizeLine; decide, fun t ht => ?_⟩
          have S14 := same_upd (o := .tup [.str "dec", .int one]) ht
          exact ⟨li, _, _, rfl, rfl, S14 _ _ (S13 _ _ hts12), by rw [List.length_map]; exact small1000 (by omega), fin _ t ("dec", [one]) (s012.trans (Sm.of (S13.trans S14))) ((pn13.upd ht).mono (by omega)) (S14 _ _ (S13 _ _ hts12)) upd_same (one_ _ (.inr (.inl rfl)))⟩
        · refine iteN (by decide +kernel) ⟨_, rfl, _, rfl, by show 2 ≤ sizeLine; decide, fun t ht => ?_⟩
          have S14 := same_upd (o := .tup [.str "clear", .int one]) ht
          exact ⟨li, _, _, rfl, rfl, S14 _ _ (S13 _ _ hts12), by rw [List.length_map]; exact small1000 (by omega), fin _ t ("clear", [one]) (s012.trans (Sm.of (S13.trans S14))) ((pn13.upd ht).mono (by omega)) (S14 _ _ (S13 _ _ hts12)) upd_same (one_ _ (.inr (.inr rfl)))⟩
        · refine iteY (by decide +kernel) ⟨_, rfl, _, rfl, _, rfl, by show 3 ≤ sizeLine; decide, fun t ht => ?_⟩
          have S14 := same_upd (o := .tup [.str "add", .int one, .int two]) ht
          exact ⟨li, _, _, rfl, rfl, S14 _ _ (S13 _ _ hts12), by rw [List.length_map]; exact small1000 (by omega), fin _ t ("add", [one, two]) (s012.trans (Sm.of (S13.trans S14))) ((pn13.upd ht).mono (by omega)) (S14 _ _ (S13 _ _ hts12)) upd_same fun no => .two (.inl rfl) oneB.1 oneB.2 w0 w1⟩
        · refine iteY (by decide +kernel) ⟨_, rfl, _, rfl, _, rfl, by show 3 ≤ sizeLine; decide, fun t ht => ?_⟩
          have S14 := same_upd (o := .tup [.str "copy", .int one, .int two]) ht
          exact ⟨li, _, _, rfl, rfl, S14 _ _ (S13 _ _ hts12), by rw [List.length_map]; exact small1000 (by omega), fin _ t ("copy", [one, two]) (s012.trans (Sm.of (S13.trans S14))) ((pn13.upd ht).mono (by omega)) (S14 _ _ (S13 _ _ hts12)) upd_same fun no => .two (.inr rfl) oneB.1 oneB.2 w0 w1⟩
        · exact (hnp (decide_eq_true rfl)).elim
    · rintro σ H' ⟨v5, v6, v7, v8, os, rfl, sm, pn, hol, hok, ts, hts, hpr⟩
      have hlr' : H' lr = some (.lst (rs.map tx)) := sm _ _ nlrq hlr4
      have hlc' : H' lc = some (.lst (cs.map tx)) := sm _ _ nlcq hlc
      have hlen : ts.length = os.length := hpr.length
      refine ⟨_, rfl, _, _, rfl, rfl, ?_⟩
      -- orders = [("ifzero", 0, end)] + inner + [("dec", 0), ("jump", 0)]
      refine ⟨_, rfl, by show 3 ≤ sizeLine; decide, fun ta hta => ⟨by show 1 ≤ sizeLine; decide, fun l1 hl1 => ?_⟩⟩
      have A1 := same_upd (o := .tup [.str "ifzero", .int 0, .int (1 + r3 + 3)]) hta
      have A2 := same_upd (o := .lst [.ref ta]) hl1
      have fa1 := A2 _ _ (upd_same (H := H') (a := ta) (o := .tup [.str "ifzero", .int 0, .int (1 + r3 + 3)]))
      have A12 := A1.trans A2
      have pA := (pn.upd (o := .tup [.str "ifzero", .int 0, .int (1 + r3 + 3)]) hta).upd (o := .lst [.ref ta]) hl1
      refine ⟨_, rfl, l1, li, _, _, rfl, rfl, upd_same, A12 _ _ hts, by rw [List.length_map, sizeLine_eq]; show 1 + _ ≤ 16777216; omega, fun l2 hl2 => ?_⟩
      generalize upd (upd H' ta (.tup [.str "ifzero", .int 0, .int (1 + r3 + 3)])) l1 (.lst [.ref ta]) = HA at fa1 A12 pA hl2 ⊢
      clear A1 A2 hl1 hta
      have A3 := same_upd (o := .lst ([.ref ta] ++ ts.map V.ref)) hl2
      have f2 := upd_same (H := HA) (a := l2) (o := .lst ([.ref ta] ++ ts.map V.ref))
      have pB := pA.upd (o := .lst ([.ref ta] ++ ts.map V.ref)) hl2
      have fa2 := A3 _ _ fa1
      have S13 := A12.trans A3
      generalize upd HA l2 (.lst ([.ref ta] ++ ts.map V.ref)) = HB at f2 pB fa2 S13 ⊢
      refine ⟨by show 2 ≤ sizeLine; decide, fun tb htb => ⟨by show 2 ≤ sizeLine; decide, fun tc htc => ⟨by show 2 ≤ sizeLine; decide, fun l3 hl3 => ?_⟩⟩⟩
      have B1 := same_upd (o := .tup [.str "dec", .int 0]) htb
      have B2 := same_upd (o := .tup [.str "jump", .int 0]) htc
      have B3 := same_upd (o := .lst [.ref tb, .ref tc]) hl3
      have B13 := (B1.trans B2).trans B3
      refine ⟨l2, l3, _, _, rfl, rfl, B13 _ _ f2, upd_same, by rw [List.length_append, List.length_map, sizeLine_eq]; show 1 + _ + 2 ≤ 16777216; omega, fun l4 hl4 => ?_⟩
      have B4 := same_upd (o := .lst (([.ref ta] ++ ts.map V.ref) ++ [.ref tb, .ref tc])) hl4
      have fb := B4 _ _ (B3 _ _ (B2 _ _ (upd_same (H := HB) (a := tb) (o := .tup [.str "dec", .int 0]))))
      have fc := B4 _ _ (B3 _ _ (upd_same (H := upd HB tb (.tup [.str "dec", .int 0])) (a := tc) (o := .tup [.str "jump", .int 0])))
      have f4 := upd_same (H := upd (upd (upd HB tb (.tup [.str "dec", .int 0])) tc (.tup [.str "jump", .int 0])) l3 (.lst [.ref tb, .ref tc])) (a := l4) (o := .lst (([.ref ta] ++ ts.map V.ref) ++ [.ref tb, .ref tc]))
      have S14 := S13.trans (B13.trans B4)
      have fa := B4 _ _ (B13 _ _ fa2)
      have pC := (((pB.upd (o := .tup [.str "dec", .int 0]) htb).upd (o := .tup [.str "jump", .int 0]) htc).upd (o := .lst [.ref tb, .ref tc]) hl3).upd (o := .lst (([.ref ta] ++ ts.map V.ref) ++ [.ref tb, .ref tc])) hl4
      generalize upd (upd (upd (upd HB tb (.tup [.str "dec", .int 0])) tc (.tup [.str "jump", .int 0])) l3 (.lst [.ref tb, .ref tc])) l4 (.lst (([.ref ta] ++ ts.map V.ref) ++ [.ref tb, .ref tc])) = HC at fb fc f4 S14 fa pC ⊢
      clear B1 B2 B3 B4 B13 htb htc hl3 hl4 f2 fa2 S13 pB hl2 A3
      -- the dict
      refine fun d hd => ⟨_, rfl, _, rfl, _, rfl, by show 2 ≤ sizeLine; decide, fun te hte => ⟨by show 1 ≤ sizeLine; decide, fun l5 hl5 => ?_⟩⟩
      have D1 := same_upd (o := .dK []) hd
      have D2 := same_upd (o := .tup [.str "inc", .int 0]) hte
      have D3 := same_upd (o := .lst [.ref te]) hl5
      have pD := ((pC.upd (o := .dK []) hd).upd (o := .tup [.str "inc", .int 0]) hte).upd (o := .lst [.ref te]) hl5
      have fd := D3 _ _ (D2 _ _ (upd_same (H := HC) (a := d) (o := .dK [])))
      have fe := D3 _ _ (upd_same (H := upd HC d (.dK [])) (a := te) (o := .tup [.str "inc", .int 0]))
      have f5 := upd_same (H := upd (upd HC d (.dK [])) te (.tup [.str "inc", .int 0])) (a := l5) (o := .lst [.ref te])
      have D13 := (D1.trans D2).trans D3
      have smD : Sm q HC _ := Sm.of D13
      generalize upd (upd (upd HC d (.dK [])) te (.tup [.str "inc", .int 0])) l5 (.lst [.ref te]) = HD at pD fd fe f5 D13 smD ⊢
      clear D1 D2 D3 hte hl5
      refine ⟨_, rfl, c, q, n + 123 + 4 * (1 + r3).toNat, 2, rfl, pD, by omega, by decide, by decide, fun HE k sE qE k0 k1 => ?_⟩
      have ndq : d ≠ q := pC.ne_none hd
      refine ⟨l5, k, _, rfl, rfl, sE.lst pD f5, by omega, by omega, by rw [sizeLine_eq]; show 1 * k.toNat ≤ 16777216; omega, fun l6 hl6 => ?_⟩
      have erep : (List.replicate k.toNat [V.ref te]).flatten = (List.replicate k.toNat te).map V.ref := by rw [List.flatten_replicate_singleton, List.map_replicate]
      rw [erep]
      have E1 := same_upd (o := .lst ((List.replicate k.toNat te).map V.ref)) hl6
      refine ⟨l4, l6, _, _, rfl, rfl, E1 _ _ (sE.lst pD (D13 _ _ f4)), upd_same, by rw [List.length_append, List.length_append, List.length_map, List.length_map, List.length_replicate, sizeLine_eq]; show 1 + _ + 2 + _ ≤ 16777216; omega, fun l7 hl7 => ?_⟩
      have el : ([V.ref ta] ++ ts.map V.ref) ++ [V.ref tb, .ref tc] ++ (List.replicate k.toNat te).map V.ref = (([ta] ++ ts) ++ [tb, tc] ++ List.replicate k.toNat te).map V.ref := by simp
      rw [el]
      have E2 := same_upd (o := .lst ((([ta] ++ ts) ++ [tb, tc] ++ List.replicate k.toNat te).map V.ref)) hl7
      have E12 := E1.trans E2
      have fdE : HE d = some (.dK []) := sE _ _ ndq fd
      refine ⟨E12 _ _ fdE, dk lr lc l7, rfl, by show 3 ≤ 15; decide, ?_⟩
      rw [dk_merge]
      have f7 := upd_same (H := upd HE l6 (.lst ((List.replicate k.toNat te).map V.ref))) (a := l7) (o := .lst ((([ta] ++ ts) ++ [tb, tc] ++ List.replicate k.toNat te).map V.ref))
      have pF := ((qE.upd (o := .lst ((List.replicate k.toNat te).map V.ref)) hl6).upd (o := .lst ((([ta] ++ ts) ++ [tb, tc] ++ List.replicate k.toNat te).map V.ref)) hl7)
      have fdF := E12 _ _ fdE
      have smF : Sm q HC _ := (smD.trans sE).trans (Sm.of E12)
      have cross : ∀ {t : Addr} {xs : List V}, HD t = some (.tup xs) → upd (upd HE l6 (.lst ((List.replicate k.toNat te).map V.ref))) l7 (.lst ((([ta] ++ ts) ++ [tb, tc] ++ List.replicate k.toNat te).map V.ref)) t = some (.tup xs) := fun h => E12 _ _ (sE.tup pD h)
      generalize upd (upd HE l6 (.lst ((List.replicate k.toNat te).map V.ref))) l7 (.lst ((([ta] ++ ts) ++ [tb, tc] ++ List.replicate k.toNat te).map V.ref)) = HF at f7 pF fdF smF cross ⊢
      -- behind the dict's store
      have nt : ∀ {t : Addr} {xs : List V}, HF t = some (.tup xs) → upd HF d (.dK (dk lr lc l7)) t = some (.tup xs) := fun {t xs} h => by
        rw [upd_ne (ne_of h fdF (by intro z; cases z))]
        exact h
      have nl : ∀ {t : Addr} {xs : List V}, HF t = some (.lst xs) → upd HF d (.dK (dk lr lc l7)) t = some (.lst xs) := fun {t xs} h => by
        rw [upd_ne (ne_of h fdF (by intro z; cases z))]
        exact h
      have sHF : Sm q H' HF := (Sm.of S14).trans smF
      have sFin : Sm q HC (upd HF d (.dK (dk lr lc l7))) := smF.new hd
      have paired : Paired (fun t o => upd HF d (.dK (dk lr lc l7)) t = some (.tup (ordV o))) (([ta] ++ ts) ++ [tb, tc] ++ List.replicate k.toNat te) ((([(("ifzero" : Str), ([0, 1 + r3 + 3] : List Int))] : List (Str × List Int)) ++ os) ++ [(("dec" : Str), ([0] : List Int)), (("jump" : Str), ([0] : List Int))] ++ List.replicate k.toNat (("inc" : Str), ([0] : List Int))) :=
        paired_app (paired_app (.cons (nt (cross (D13 _ _ fa))) (L2.Paired.mapP hpr fun t o h => nt (sHF.tup pn h))) (.cons (nt (cross (D13 _ _ fb))) (.cons (nt (cross (D13 _ _ fc))) .nil))) (paired_rep _ (nt (cross fe)))
      have nlen : ((([(("ifzero" : Str), ([0, 1 + r3 + 3] : List Int))] : List (Str × List Int)) ++ os) ++ [(("dec" : Str), ([0] : List Int)), (("jump" : Str), ([0] : List Int))] ++ List.replicate k.toNat (("inc" : Str), ([0] : List Int))).length = 4 + r3.toNat + k.toNat := by
        simp only [List.length_append, List.length_cons, List.length_nil, List.length_replicate]
        omega
      refine go _ d rs cs _ (s04.trans (sm.trans ((Sm.of S14).trans sFin))) ((pF.new pC hd).mono (by omega)) ⟨lr, lc, l7, upd_same, nl (sHF.lst pn hlr'), nl (sHF.lst pn hlc'), _, nl f7, paired⟩ ?_ ndq
      refine ⟨by omega, by omega, hrd, hrn, by omega, by omega, hcd, hcn, by rw [nlen]; omega, fun o ho => ?_⟩
      rw [nlen]
      rcases List.mem_append.mp ho with ho | ho
      · rcases List.mem_append.mp ho with ho | ho
        · rcases List.mem_cons.mp ho with rfl | ho
          · exact .ifz (by decide) (by omega) (by omega) (by omega)
          · exact hok o ho _
        · simp only [List.mem_cons, List.not_mem_nil, or_false] at ho
          rcases ho with rfl | rfl
          · exact .one (.inr (.inl rfl)) (by decide) (by omega)
          · exact .jump (by decide) (by omega)
      · rw [(List.mem_replicate.mp ho).2]
        exact .one (.inl rfl) (by decide) (by omega)
/-! ### _law_any_program -/
def spAny : Sp := fun vs H Q _ => ∃ (c q : Addr) (n : Nat), vs = [.ref q, .int 4] ∧ PenAt c q n H ∧ n < 2 ^ 36 ∧
  ∀ (H' : Hp) (d : Addr) (rs cs : List (List Nat)) (os : List (Str × List Int)), Sm q H H' → PenAt c q (n + 201) H' → DrawnAt H' d rs cs os → Good rs cs os → d ≠ q → Q (.ref d) H'
theorem scAny : FnScope ["_law_pen_here", "_law_most"] ["_law_pen_here", "_law_most"] (defScope (top 57)) := ⟨rfl, rfl, rfl, by decide +kernel, rfl, by decide +kernel, by decide +kernel⟩
theorem ok_any (T : Txt K mg w) : Cal P w K mg base 6 "_law_any_program" spAny := by
  refine cal_of (N := ["_law_pen_here", "_law_most"]) (ps := ["_law_pen_here", "_law_most"]) (T.d 25) scAny (fun _ _ _ _ _ _ us hl => match us, hl with | [_, _], _ => rfl) (fun vs H Q E h => ?_) (fun f0 cdv A outer s H vs Q E hr h => ?_)
  · obtain ⟨c, q, n, rfl, _⟩ := h
    rfl
  · obtain ⟨c, q, n, rfl, pen, hn, go⟩ := h
    refine ⟨_, pss_one (ps_ret (pe_ifExp (pt_cmpR op_eq (pe_c (ok_draw T) hr (by decide) (pa_cons (pv 0) (pa_cons pe_int pa_nil))) pe_int (nomark _)) (pe_c (ok_loop T) hr (by decide) (pa_cons (pv 0) pa_nil)) (pe_c (ok_program T) hr (by decide) (pa_cons (pv 0) (pa_cons (pv 1) pa_nil))))), ?_⟩
    refine ⟨_, rfl, c, q, n, 2, rfl, pen, by omega, by decide, by decide, fun H1 r s1 p1 r0 r1 => ⟨rfl, _, rfl, ?_⟩⟩
    refine ite2 (fun _ => ?_) (fun _ => ?_)
    · refine ⟨_, rfl, c, q, n + 1, rfl, p1, by omega, fun H' d rs cs os s2 p2 hd hg hdq => go H' d rs cs os (s1.trans s2) (p2.mono (by omega)) hd hg hdq⟩
    · refine ⟨_, rfl, _, rfl, c, q, n + 1, rfl, p1, by omega, fun H' d rs cs os s2 p2 hd hg hdq => go H' d rs cs os (s1.trans s2) (p2.mono (by omega)) hd hg hdq⟩
end
end Tg

-- part KM2
/-! plain lists: the names of marks -/
namespace TgM
/-- a number's digits -/
def num (n : Nat) : List Nat := (Nat.toDigits 10 n).map Char.toNat
def dec (l : List Nat) : Nat := l.foldl (fun a c => 10 * a + (c - 48)) 0
def isD (c : Nat) : Bool := decide (48 ≤ c) && decide (c ≤ 57)
theorem num_ok : ∀ n, n < 100 → (num n).length ≤ 2 ∧ (num n).all isD = true ∧ dec (num n) = n := by decide +kernel
def bases : List (List Nat) := [[108], [105, 110, 99], [97, 116], [97], [101, 110, 100]]
theorem bases_ok : ∀ b ∈ bases, b.filter isD = [] ∧ b.length ≤ 3 ∧ b.all sml = true ∧ b ≠ [] := by decide +kernel
def MarkNm (t : Nat) (s : List Nat) : Prop := ∃ b ∈ bases, s = b ++ num t
theorem filter_all {p : Nat → Bool} {l : List Nat} (h : l.all p = true) : l.filter p = l := List.filter_eq_self.mpr fun x hx => List.all_eq_true.mp h x hx
theorem MarkNm.inj {t t' : Nat} {s : List Nat} (h : MarkNm t s) (h' : MarkNm t' s) (ht : t < 100) (ht' : t' < 100) : t = t' := by
  obtain ⟨b, hb, e⟩ := h
  obtain ⟨b', hb', e'⟩ := h'
  have e2 := congrArg (List.filter isD) (e.symm.trans e')
  rw [List.filter_append, List.filter_append, (bases_ok b hb).1, (bases_ok b' hb').1, filter_all (num_ok t ht).2.1, filter_all (num_ok t' ht').2.1, List.nil_append, List.nil_append] at e2
  rw [← (num_ok t ht).2.2, ← (num_ok t' ht').2.2, e2]
theorem MarkNm.name {t : Nat} {s : List Nat} (h : MarkNm t s) (ht : t < 100) : NameL s := by
  obtain ⟨b, hb, rfl⟩ := h
  obtain ⟨_, b1, b2, b3⟩ := bases_ok b hb
  obtain ⟨n1, n2, _⟩ := num_ok t ht
  have hall := List.all_eq_true.mp b2
  have hn := List.all_eq_true.mp n2
  refine ⟨?_, by rw [List.length_append]; omega, fun c hc => ?_⟩
  · cases b with
    | nil => exact absurd rfl b3
    | cons c r => exact ⟨c, r ++ num t, rfl, hall c List.mem_cons_self⟩
  · rcases List.mem_append.mp hc with hc | hc
    · unfold sgn
      rw [hall c hc, Bool.true_or]
    · have := hn c hc
      unfold sgn
      unfold isD at this
      rw [this, Bool.or_true]
end TgM

-- part KM3
/-! plain lists: the marks of a program -/
namespace TgM
def putM (mk : Int → List (List Nat)) (i : Int) (s : List Nat) : Int → List (List Nat) := fun p => if p = i then mk p ++ [s] else mk p
/-- within the turn of number i, j names there so far, k in all -/
structure MarkIn (named : List Int) (i : Int) (j k : Nat) (mk : Int → List (List Nat)) : Prop where
  a : ∀ p s, s ∈ mk p → ∃ t, t < k ∧ MarkNm t s
  b : ∀ p, (mk p).Nodup
  c : ∀ p p' s, s ∈ mk p → s ∈ mk p' → p = p'
  e : ∀ p ∈ named, 0 ≤ p → p < i → mk p ≠ []
  f : ∀ p, i < p → mk p = []
  g : ∀ p, (mk p).length ≤ 2
  h : (mk i).length = j
theorem MarkIn.put {named : List Int} {i : Int} {j k : Nat} {mk : Int → List (List Nat)} {s : List Nat} (m : MarkIn named i j k mk) (hs : MarkNm k s) (hk : k < 90) (hj : j < 2) : MarkIn named i (j + 1) (k + 1) (putM mk i s) := by
  have fresh : ∀ p, s ∉ mk p := fun p hm => by
    obtain ⟨t, ht, hn⟩ := m.a p s hm
    have := hn.inj hs (by omega) (by omega)
    omega
  have at_ : ∀ p x, x ∈ putM mk i s p → x ∈ mk p ∨ (p = i ∧ x = s) := fun p x hx => by
    unfold putM at hx
    split at hx
    · rename_i e
      rcases List.mem_append.mp hx with hx | hx
      · exact .inl hx
      · exact .inr ⟨e, List.mem_singleton.mp hx⟩
    · exact .inl hx
  have eqi : putM mk i s i = mk i ++ [s] := if_pos rfl
  have eqn : ∀ p, p ≠ i → putM mk i s p = mk p := fun p hp => if_neg hp
  refine ⟨fun p x hx => ?_, fun p => ?_, fun p p' x h1 h2 => ?_, fun p hp h0 hi => ?_, fun p hp => ?_, fun p => ?_, ?_⟩
  · rcases at_ p x hx with hx | ⟨_, rfl⟩
    · obtain ⟨t, ht, hn⟩ := m.a p x hx
      exact ⟨t, by omega, hn⟩
    · exact ⟨k, by omega, hs⟩
  · by_cases hp : p = i
    · rw [hp, eqi, List.nodup_append]
      exact ⟨m.b i, List.nodup_cons.mpr ⟨List.not_mem_nil, List.nodup_nil⟩, fun a ha b hb => by rw [List.mem_singleton.mp hb]; exact fun z => fresh i (z ▸ ha)⟩
    · rw [eqn p hp]
      exact m.b p
  · rcases at_ p x h1 with g1 | ⟨e1, ex⟩
    · rcases at_ p' x h2 with g2 | ⟨_, ex⟩
      · exact m.c p p' x g1 g2
      · rw [ex] at g1
        exact absurd g1 (fresh p)
    · rw [ex] at h2
      rcases at_ p' s h2 with g2 | ⟨e2, _⟩
      · exact absurd g2 (fresh p')
      · rw [e1, e2]
  · rw [eqn p (by omega)]
    exact m.e p hp h0 hi
  · rw [eqn p (by omega)]
    exact m.f p hp
  · by_cases hp : p = i
    · rw [hp, eqi, List.length_append, m.h]
      show j + 1 ≤ 2
      omega
    · rw [eqn p hp]
      exact m.g p
  · rw [eqi, List.length_append, m.h]
    rfl
theorem MarkIn.next {named : List Int} {i : Int} {j k : Nat} {mk : Int → List (List Nat)} (m : MarkIn named i j k mk) (h : i ∈ named → 0 < j) : MarkIn named (i + 1) 0 k mk := by
  refine ⟨m.a, m.b, m.c, fun p hp h0 hi => ?_, fun p hp => m.f p (by omega), m.g, ?_⟩
  · by_cases e : p = i
    · subst e
      intro z
      have h2 := m.h
      rw [z] at h2
      have := h hp
      simp at h2
      omega
    · exact m.e p hp h0 (by omega)
  · rw [m.f (i + 1) (by omega)]
    rfl
/-- what holds of all marks -/
structure MarksOk (named : List Int) (no : Nat) (mk : Int → List (List Nat)) : Prop where
  nm : ∀ p s, s ∈ mk p → NameL s
  nd : ∀ p, (mk p).Nodup
  dj : ∀ p p' s, s ∈ mk p → s ∈ mk p' → p = p'
  has : ∀ p ∈ named, 0 ≤ p → p ≤ no → mk p ≠ []
  sz : ∀ p, (mk p).length ≤ 2
theorem MarkIn.done {named : List Int} {no : Nat} {k : Nat} {mk : Int → List (List Nat)} (m : MarkIn named ((no : Int) + 1) 0 k mk) (hk : k ≤ 90) : MarksOk named no mk :=
  ⟨fun p s hs => by
    obtain ⟨t, ht, hn⟩ := m.a p s hs
    exact hn.name (by omega), m.b, m.c, fun p hp h0 h1 => m.e p hp h0 (by omega), m.g⟩
theorem MarkIn.start (named : List Int) : MarkIn named 0 0 0 (fun _ => []) :=
  ⟨fun _ _ h => absurd h List.not_mem_nil, fun _ => List.nodup_nil, fun _ _ _ h => absurd h List.not_mem_nil, fun p _ h0 h1 => by omega, fun _ _ => rfl, fun _ => Nat.zero_le _, rfl⟩
end TgM

-- part KI
set_option Elab.async false
set_option linter.all false
set_option maxRecDepth 100000
set_option maxHeartbeats 4000000
namespace Tg
open PySem PySem.Spec PyProof.Rows L2 TgM
/-! ### _law_marks -/
def labOf (o : Str × List Int) : Option Int := if o.1 = "jump" ∨ o.1 = "ifzero" ∨ o.1 = "ifsame" then o.2.getLast? else none
abbrev labW : List V := [.str "jump", .str "ifzero", .str "ifsame"]
theorem ord_lab {nr nc no : Nat} {o : Str × List Int} (h : OrdOk nr nc no o) : (labOf o = none ∧ inV (.str o.1) labW = false) ∨ (∃ p, labOf o = some p ∧ 0 ≤ p ∧ p ≤ no ∧ inV (.str o.1) labW = true ∧ atI (ordV o) (-1) = some (.int p)) := by
  cases h with
  | one hw _ _ => rcases hw with rfl | rfl | rfl <;> exact .inl ⟨by kernel_rfl, by kernel_rfl⟩
  | two hw _ _ _ _ => rcases hw with rfl | rfl <;> exact .inl ⟨by kernel_rfl, by kernel_rfl⟩
  | @jump p h0 h1 => exact .inr ⟨p, by kernel_rfl, h0, h1, by kernel_rfl, atI_last [V.str "jump"] (V.int p)⟩
  | @ifz i p _ _ h0 h1 => exact .inr ⟨p, by kernel_rfl, h0, h1, by kernel_rfl, atI_last [V.str "ifzero", V.int i] (V.int p)⟩
  | @ifs i j p _ _ _ _ h0 h1 => exact .inr ⟨p, by kernel_rfl, h0, h1, by kernel_rfl, atI_last [V.str "ifsame", V.int i, V.int j] (V.int p)⟩
  | paint _ _ => exact .inl ⟨by kernel_rfl, by kernel_rfl⟩
  | stop => exact .inl ⟨by kernel_rfl, by kernel_rfl⟩
theorem paired_get {α β : Type} {R : α → β → Prop} : ∀ {xs : List α} {ys : List β} {i : Nat} {x : α}, Paired R xs ys → xs[i]? = some x → ∃ y, ys[i]? = some y ∧ R x y
  | _, _, _, _, .nil, e => by simp at e
  | _, _, 0, _, .cons a _, e => by
    simp at e
    subst e
    exact ⟨_, rfl, a⟩
  | _, _, i + 1, x, .cons _ t, e => by
    obtain ⟨y, h1, h2⟩ := paired_get (i := i) (x := x) t (by simpa using e)
    exact ⟨y, by simpa using h1, h2⟩
theorem dg_orders {H : Hp} {d lr lc lo : Addr} (h : H d = some (.dK (dk lr lc lo))) : DGet H d (.str ("orders" : Str)) (some (.ref lo)) := by have z := DGet.k (k := .inr ("orders" : Str)) h; rw [dk_o] at z; exact z
theorem dg_regs {H : Hp} {d lr lc lo : Addr} (h : H d = some (.dK (dk lr lc lo))) : DGet H d (.str ("registers" : Str)) (some (.ref lr)) := by have z := DGet.k (k := .inr ("registers" : Str)) h; rw [dk_r] at z; exact z
theorem dg_cols {H : Hp} {d lr lc lo : Addr} (h : H d = some (.dK (dk lr lc lo))) : DGet H d (.str ("colours" : Str)) (some (.ref lc)) := by have z := DGet.k (k := .inr ("colours" : Str)) h; rw [dk_c] at z; exact z
theorem inV_int (a : Int) (ns : List Int) : inV (.int a) (ns.map V.int) = decide (a ∈ ns) := by
  unfold inV
  rw [List.any_map, Bool.eq_iff_iff, List.any_eq_true, decide_eq_true_eq]
  constructor
  · rintro ⟨x, hx, e⟩
    have e2 : (x == a) = true := e
    rw [← eq_of_beq e2]
    exact hx
  · intro h
    exact ⟨a, h, beq_self_eq_true a⟩
theorem int_flat (ns : List Int) : (ns.map V.int).all flatV = true := by
  rw [List.all_map]
  exact List.all_eq_true.mpr fun _ _ => rfl
/-- the dict of marks at m -/
def MarksAt (H : Hp) (m : Addr) (mk : Int → List (List Nat)) (B : Nat) : Prop := ∃ kvs : List (Key × V), H m = some (.dK kvs) ∧ kvs.length ≤ B ∧
  ∀ p : Int, (mk p = [] ∧ valV kvs (.inl p) = none) ∨ (mk p ≠ [] ∧ ∃ l : Addr, valV kvs (.inl p) = some (.ref l) ∧ H l = some (.lst ((mk p).map tx)))
theorem MarksAt.mono {H : Hp} {m : Addr} {mk : Int → List (List Nat)} {B C : Nat} (h : MarksAt H m mk B) (hb : B ≤ C) : MarksAt H m mk C := by
  obtain ⟨kvs, a, b, c⟩ := h
  exact ⟨kvs, a, Nat.le_trans b hb, c⟩
section
variable {P : Program} {w : World} {K : PySem.W.Frag} {mg : Str → Option Value} {base : Heap}
abbrev nmMarks : List Str := ["_law_pen_here", "_law_program_here", "_law_named", "_law_found", "_law_count", "_law_number", "_law_many", "_law_lap", "_law_order"]
def spMarks : Sp := fun vs H Q _ => ∃ (c q d : Addr) (n : Nat) (rs cs : List (List Nat)) (os : List (Str × List Int)), vs = [.ref q, .ref d] ∧ PenAt c q n H ∧ n < 2 ^ 35 ∧ DrawnAt H d rs cs os ∧ Good rs cs os ∧ d ≠ q ∧
  ∀ (H' : Hp) (m : Addr) (mk : Int → List (List Nat)), Sm q H H' → PenAt c q (n + 40) H' → MarksAt H' m mk 40 → MarksOk (os.filterMap labOf) os.length mk → m ≠ q → Q (.ref m) H'
theorem scMarks : FnScope nmMarks ["_law_pen_here", "_law_program_here"] (defScope (top 58)) := ⟨rfl, rfl, rfl, by decide +kernel, rfl, by decide +kernel, by decide +kernel⟩
theorem ok_marks (T : Txt K mg w) : Cal P w K mg base 3 "_law_marks" spMarks := by
  refine cal_of (N := nmMarks) (ps := ["_law_pen_here", "_law_program_here"]) (T.d 26) scMarks (fun _ _ _ _ _ _ us hl => match us, hl with | [_, _], _ => rfl) (fun vs H Q E h => ?_) (fun f0 cdv A outer s H vs Q E hr h => ?_)
  · obtain ⟨c, q, d, n, rs, cs, os, rfl, _⟩ := h
    rfl
  · obtain ⟨c, q, d, n, rs, cs, os, rfl, pen, hn, ⟨lr, lc, lo, hd, hlr, hlc, ts, hlo, hpr⟩, gd, hdq, go⟩ := h
    have nd := scMarks.nd
    have hu := hu_of hr
    refine ⟨_, pss_cons (ps_setLc (i := 2) (own := [("_law_order", 8)]) (g := gName 8) rfl nd rfl rfl (sw_true rfl rfl rfl (by decide +kernel)) (pi_list (pe_dget hu (pv 1) pe_str (fun _ _ => rfl))) (blkOk_by (N := nmMarks) (sc := defScope (top 58)) (by decide +kernel))
        (fun _ _ _ _ _ => pg_name (i := 8) nd rfl (.inl rfl)) (fun _ _ _ _ _ => pts_one (pt_cmpR (r := rIn K false) op_in_seq (pe_ix (r := rIxT K) ix_tup (pv 8) pe_int (fun _ _ => rfl)) (pe_lst (pa_cons pe_str (pa_cons pe_str (pa_cons pe_str pa_nil)))) (by rfl))) (fun _ _ _ _ _ => pe_ix (r := rIxT K) ix_tup (pv 8) (pe_un un_neg pe_int) (fun _ _ => rfl)))
      (pss_cons (ps_par (i := 3) (j := 4) (by rfl) nd rfl rfl (by decide) rfl rfl (pa_cons pe_dnewK (pa_cons pe_int pa_nil)) (by rfl))
      (pss_cons (ps_for PassesOwn.never rfl (pi_range1 rfl (T.free "range") (pa_cons (pe_op op_add (pe_callB call_len_seq (by rfl) (T.free "len") PySem.boot_len (pa_cons (pe_dget hu (pv 1) pe_str (fun _ _ => rfl)) pa_nil)) pe_int) pa_nil)) (pg_name (i := 5) nd rfl (.inl rfl))
        (C8.pss_cut (ps_set (i := 6) nd rfl (.inl rfl) (pe_ifExp (pt_cmpR op_in_seq (pv 5) (pv 2) (by rfl)) pe_int pe_int))
        (pss_one (ps_for PassesOwn.never rfl (pi_range1 rfl (T.free "range") (pa_cons (pe_op op_add (pv 6) (pe_c (ok_pick T) hr (by decide) (pa_cons (pv 0) (pa_cons (pe_lst (pa_cons pe_int (pa_cons pe_int (pa_cons pe_int (pa_cons pe_int pa_nil))))) pa_nil)))) pa_nil)) (pg_name (i := 7) nd rfl (.inl rfl))
          (pss_cons (ps_dput hu (pv 3) (pv 5) (pe_op op_cat (pe_dget2 hu (pv 3) (pv 5) (pe_lst pa_nil) ⟨rfl, rfl, rfl, rfl⟩) (pe_lst (pa_cons (pe_op op_add_str (pe_c (ok_pick T) hr (by decide) (pa_cons (pv 0) (pa_cons (pe_lst (pa_cons pe_str (pa_cons pe_str (pa_cons pe_str (pa_cons pe_str (pa_cons pe_str pa_nil)))))) pa_nil)))
              (pe_callTy call_str_int (by rfl) (T.free "str") (by decide +kernel) (pa_cons (pv 4) pa_nil))) pa_nil))) rfl)
          (pss_one (ps_set (i := 4) nd rfl (.inl rfl) (pe_op op_add (pv 4) pe_int))))))))
      (pss_one (ps_ret (pv 3))))), ?_⟩
    have hlen : ts.length = os.length := hpr.length
    have o8 := gd.o8
    -- named
    refine ⟨_, rfl, d, _, rfl, dg_orders hd, lo, rfl, ⟨_, SqL.of hlo⟩, fun D hD => ?_⟩
    refine lc_list (K := K) (a := lo) (xs := ts.map V.ref) (fun i H' => Same H H' ∧ H' D = some (.lst (((os.take i).filterMap labOf).map V.int))) ⟨same_upd hD, upd_same⟩ (fun i H' _ h => same_sql h.1 (SqL.of hlo)) ?_ ?_
    · rintro i x H' hi ⟨s1, h1⟩
      obtain ⟨t, ht, rfl⟩ : ∃ t, ts[i]? = some t ∧ x = V.ref t := by
        rw [List.getElem?_map] at hi
        cases e : ts[i]? with
        | none => rw [e] at hi; cases hi
        | some t => rw [e] at hi; exact ⟨t, rfl, (Option.some.inj hi).symm⟩
      obtain ⟨o, ho, hto⟩ := paired_get hpr ht
      have hto' := s1 _ _ hto
      have eo : os.take (i + 1) = os.take i ++ [o] := by rw [List.take_add_one, ho] <;> rfl
      have hsz : ((os.take i).filterMap labOf).length ≤ 8 := Nat.le_trans (List.length_filterMap_le _ _) (by rw [List.length_take]; omega)
      refine ⟨rfl, _, rfl, t, _, 0, _, rfl, rfl, SqT.of hto', atI_nat (j := 0) rfl, by show 3 ≤ sizeLine; decide, fun p hp => ⟨p, _, rfl, .inl (SqL.of upd_same), rfl, rfl, _, rfl, ?_⟩⟩
      have S2 := same_upd (o := .lst labW) hp
      rcases ord_lab (gd.ok o (List.mem_of_getElem? ho)) with ⟨e1, e2⟩ | ⟨pl, e1, _, _, e2, e3⟩
      · refine iteN e2 ⟨s1.trans S2, ?_⟩
        rw [eo, List.filterMap_append, List.filterMap_cons, e1]
        show _ = some (HO.lst ((_ ++ []).map V.int))
        rw [List.append_nil]
        exact S2 _ _ h1
      · refine iteY e2 ⟨_, rfl, _, rfl, t, _, _, _, rfl, rfl, SqT.of (S2 _ _ hto'), e3, _, S2 _ _ h1, by rw [List.length_map]; exact small1000 (by omega), same_new (s1.trans S2) hD, ?_⟩
        rw [eo, List.filterMap_append, List.filterMap_cons, e1, upd_same, List.map_append]
        rfl
    rintro H1 ⟨s1, hD1⟩
    rw [List.length_map, hlen, List.take_length] at hD1
    have pen1 : PenAt c q n H1 := by
      obtain ⟨⟨ms, g1⟩, a', d', k', f', g2, z⟩ := pen
      exact ⟨⟨ms, s1 _ _ g1⟩, a', d', k', f', s1 _ _ g2, z⟩
    -- found, count = {}, 0
    refine fun m hm => ⟨_, _, rfl, ?_⟩
    have hmq : m ≠ q := pen1.ne_none hm
    have hd1 := s1 _ _ hd
    have hlo1 := s1 _ _ hlo
    have hdm : d ≠ m := ne_of_none hd1 hm
    have hDm : D ≠ m := ne_of_none hD1 hm
    have hlom : lo ≠ m := ne_of_none hlo1 hm
    have hDq : D ≠ q := pen1.ne hD1 (fun _ z => by cases z)
    have hloq : lo ≠ q := pen1.ne hlo1 (fun _ z => by cases z)
    refine ⟨_, rfl, d, _, rfl, dg_orders (by rw [upd_ne hdm]; exact hd1), lo, _, rfl, .inl (SqL.of (by rw [upd_ne hlom]; exact hlo1)), _, _, rfl, rfl, _, rfl, by rw [List.length_map]; omega, by rw [List.length_map]; omega, ?_⟩
    have en : ((((ts.map V.ref).length : Nat) : Int) + 1).toNat = os.length + 1 := by rw [List.length_map]; omega
    show ∃ W : Nat → Nat → L2.St → Hp → Prop, _
    refine for_range (lo := 0) (n := ((((ts.map V.ref).length : Nat) : Int) + 1).toNat) (fun i σ H' => ∃ (k : Nat) (mk : Int → List (List Nat)) (v5 v6 v7 : Option V), σ = [some (.ref q), some (.ref d), some (.ref D), some (.ref m), some (.int (k : Int)), v5, v6, v7, none] ∧
      Sm q H1 H' ∧ PenAt c q (n + 3 * i) H' ∧ MarksAt H' m mk k ∧ MarkIn (os.filterMap labOf) (i : Int) 0 k mk ∧ k ≤ 2 * i) ?_ ?_ ?_
    · exact ⟨0, fun _ => [], none, none, none, rfl, (Sm.refl H1).new hm, pen1.upd hm, ⟨[], upd_same, Nat.zero_le _, fun p => .inl ⟨rfl, rfl⟩⟩, MarkIn.start _, Nat.le_refl _⟩
    · rintro i σ H' hi ⟨k, mk, v5, v6, v7, rfl, sm, pn, hma, hmi, hk⟩
      rw [en] at hi
      have hDn := sm _ _ hDq hD1
      -- many
      refine ⟨fun σ2 H2 => H2 = H' ∧ ∃ many : Int, σ2 = [some (.ref q), some (.ref d), some (.ref D), some (.ref m), some (.int (k : Int)), some (.int (i : Int)), some (.int many), v7, none] ∧ (many = 0 ∨ many = 1) ∧ ((i : Int) ∈ os.filterMap labOf → many = 1), ?_, ?_⟩
      · refine ⟨_, rfl, _, rfl, D, _, rfl, .inl (SqL.of hDn), rfl, int_flat _, _, rfl, ?_⟩
        rw [if_neg Bool.false_ne_true, inV_int, Int.zero_add]
        by_cases hmem : (i : Int) ∈ os.filterMap labOf
        · rw [decide_eq_true hmem]
          exact iteT ⟨rfl, 1, rfl, .inr rfl, fun _ => rfl⟩
        · rw [decide_eq_false hmem]
          exact iteF ⟨rfl, 0, rfl, .inl rfl, fun h => absurd h hmem⟩
      rintro σ2 H2 ⟨rfl, many, rfl, hm01, hmem⟩
      -- range(many + pick(pen, [0, 0, 0, 1]))
      refine ⟨_, rfl, _, rfl, by show 4 ≤ sizeLine; decide, fun p hp => ⟨c, q, p, n + 3 * i, _, rfl, pn.upd hp, by omega, SqL.of upd_same, by show 0 < 4; decide, by show 4 ≤ 1000; decide, fun H3 x s3 p3 hx => ?_⟩⟩
      obtain ⟨e, rfl, e0, e1⟩ : ∃ e : Int, x = .int e ∧ 0 ≤ e ∧ e ≤ 1 := by
        simp only [List.mem_cons, List.not_mem_nil, or_false] at hx
        rcases hx with rfl | rfl | rfl | rfl <;> exact ⟨_, rfl, by decide, by decide⟩
      have s23 : Sm q H2 H3 := ((Sm.refl H2).new hp).trans s3
      have hma3 : MarksAt H3 m mk k := by
        obtain ⟨kvs, g1, g2, g3⟩ := hma
        have g1' : H3 m = some (.dK kvs) := s23 _ _ hmq g1
        refine ⟨kvs, g1', g2, fun p => ?_⟩
        rcases g3 p with h | ⟨h1, l, h2, h3⟩
        · exact .inl h
        · exact .inr ⟨h1, l, h2, s23.lst pn h3⟩
      have sm3 := sm.trans s23
      have hm2 : 0 ≤ many + e ∧ many + e ≤ 2 := by rcases hm01 with rfl | rfl <;> omega
      refine ⟨_, _, rfl, rfl, many + e, rfl, by omega, by omega, for_range (lo := 0) (n := (many + e).toNat) (fun j σ H' => ∃ (mk' : Int → List (List Nat)) (v7 : Option V), σ = [some (.ref q), some (.ref d), some (.ref D), some (.ref m), some (.int ((k + j : Nat) : Int)), some (.int (i : Int)), some (.int many), v7, none] ∧
        Sm q H1 H' ∧ PenAt c q (n + 3 * i + 1 + j) H' ∧ MarksAt H' m mk' (k + j) ∧ MarkIn (os.filterMap labOf) (i : Int) j (k + j) mk') ?_ ?_ ?_⟩
      · exact ⟨mk, v7, rfl, sm3, p3, hma3, hmi⟩
      · rintro j σ H4 hj ⟨mk', v7', rfl, sm4, pn4, ⟨kvs, hkv, hkl, hkp⟩, hmi4⟩
        have hj2 : j < 2 := by omega
        -- found.get(number, [])
        refine ⟨_, rfl, m, rfl, .inl ⟨_, .inl hkv⟩, _, rfl, Nat.zero_le _, fun p0 hp0 => ?_⟩
        have S1 := same_upd (o := .lst []) hp0
        refine ⟨_, DGet.k (k := .inl ((i : Int))) (S1 _ _ hkv), ?_⟩
        obtain ⟨b, hb, hbl⟩ : ∃ b : Addr, (valV kvs (.inl (i : Int))).getD (.ref p0) = .ref b ∧ upd H4 p0 (.lst []) b = some (.lst ((mk' i).map tx)) := by
          rcases hkp i with ⟨h1, h2⟩ | ⟨h1, l, h2, h3⟩
          · exact ⟨p0, by rw [h2] <;> rfl, by rw [h1, upd_same] <;> rfl⟩
          · exact ⟨l, by rw [h2] <;> rfl, S1 _ _ h3⟩
        rw [hb]
        -- [pick(..) + str(count)]
        refine ⟨_, rfl, by show 5 ≤ sizeLine; decide, fun p1 hp1 => ?_⟩
        have S2 := same_upd (o := .lst [.str "l", .str "inc", .str "at", .str "a", .str "end"]) hp1
        refine ⟨c, q, p1, n + 3 * i + 1 + j, _, rfl, (pn4.upd hp0).upd hp1, by omega, SqL.of upd_same, by show 0 < 5; decide, by show 5 ≤ 1000; decide, fun H5 x s5 p5 hx => ?_⟩
        obtain ⟨bs, rfl, hbs⟩ : ∃ bs : List Nat, x = tx bs ∧ bs ∈ bases := by
          simp only [List.mem_cons, List.not_mem_nil, or_false] at hx
          rcases hx with rfl | rfl | rfl | rfl | rfl
          · exact ⟨[108], by kernel_rfl, by decide⟩
          · exact ⟨[105, 110, 99], by kernel_rfl, by decide⟩
          · exact ⟨[97, 116], by kernel_rfl, by decide⟩
          · exact ⟨[97], by kernel_rfl, by decide⟩
          · exact ⟨[101, 110, 100], by kernel_rfl, by decide⟩
        have hk2 : k + j < 90 := by omega
        refine ⟨_, rfl, _, rfl, ?_, ?_⟩
        · have h1 : (((k + j : Nat) : Int)).natAbs.log2 < 10 := Flt.log2_lt_of (by decide) (by omega)
          exact Nat.lt_trans h1 (by decide)
        have hnm : (SX.S bs : Str) ++ Str.ofString (toString (((k + j : Nat) : Int))) = SX.S (bs ++ num (k + j)) := by
          rw [SX.num_S, SX.S_cat]
          rfl
        have hmn : MarkNm (k + j) (bs ++ num (k + j)) := ⟨bs, hbs, rfl⟩
        have hb3 := (bases_ok bs hbs).2.1
        have hn2 := (num_ok (k + j) (by omega)).1
        refine ⟨_, _, rfl, rfl, ?_, ?_⟩
        · rw [SX.num_S, SX.S_len, SX.S_len, sizeLine_eq]
          show bs.length + (num (k + j)).length ≤ 16777216
          omega
        rw [hnm]
        refine ⟨by show 1 ≤ sizeLine; decide, fun p2 hp2 => ?_⟩
        have S3 := same_upd (o := .lst [tx (bs ++ num (k + j))]) hp2
        have s45 : Sm q H4 _ := (Sm.of (S1.trans S2)).trans s5
        have p5b := p5.upd (o := .lst [tx (bs ++ num (k + j))]) hp2
        have hb5 := S3 _ _ (s5.lst ((pn4.upd hp0).upd hp1) (S2 _ _ hbl))
        refine ⟨b, p2, _, _, rfl, rfl, hb5, upd_same, by rw [List.length_map, sizeLine_eq]; have := hmi4.h; show _ + 1 ≤ 16777216; omega, fun l hl => ?_⟩
        have S4 := same_upd (o := .lst ((mk' i).map tx ++ [tx (bs ++ num (k + j))])) hl
        have s46 : Sm q H4 _ := s45.trans (Sm.of (S3.trans S4))
        have p6 := p5b.upd (o := .lst ((mk' i).map tx ++ [tx (bs ++ num (k + j))])) hl
        have hl6 := upd_same (H := upd H5 p2 (.lst [tx (bs ++ num (k + j))])) (a := l) (o := .lst ((mk' i).map tx ++ [tx (bs ++ num (k + j))]))
        have hkv6 := s46 _ _ hmq hkv
        generalize upd (upd H5 p2 (.lst [tx (bs ++ num (k + j))])) l (.lst ((mk' i).map tx ++ [tx (bs ++ num (k + j))])) = H6 at s46 p6 hl6 hkv6 ⊢
        -- found[number] = ..
        refine ⟨_, rfl, _, rfl, m, _, rfl, DPut.k (k := .inl (i : Int)) hkv6 (by rw [sizeLine_eq]; omega), ?_⟩
        have hmk : (putM mk' i (bs ++ num (k + j))) i = mk' i ++ [bs ++ num (k + j)] := if_pos rfl
        have hmi5 := hmi4.put hmn hk2 hj2
        have hl4 : l ≠ m := fun z => by
          rw [z, hkv6] at hl6
          cases hl6
        refine ⟨_, rfl, _, _, rfl, rfl, putM mk' i (bs ++ num (k + j)), some (.int (j : Int)), ?_, (sm4.trans s46).new hm, (p6.new pen1 hm).mono (by omega), ⟨_, upd_same, ?_, fun p => ?_⟩, hmi5⟩
        · rw [Int.zero_add]
          rfl
        · have := length_putK kvs (.inl (i : Int)) (.ref l)
          omega
        · rw [valV_put]
          by_cases hpi : p = i
          · refine .inr ⟨?_, l, by rw [if_pos (by rw [hpi])], ?_⟩
            · rw [hpi, hmk]
              exact List.append_ne_nil_of_right_ne_nil _ (List.cons_ne_nil _ _)
            · rw [upd_ne hl4, hpi, hmk, List.map_append]
              exact hl6
          · have e1 : putM mk' i (bs ++ num (k + j)) p = mk' p := if_neg hpi
            rw [if_neg (fun z => hpi (Sum.inl.inj z)), e1]
            rcases hkp p with h | ⟨h1, l2, h2, h3⟩
            · exact .inl h
            · refine .inr ⟨h1, l2, h2, ?_⟩
              have h4 := s46.lst pn4 h3
              rw [upd_ne (fun z => by rw [z, hkv6] at h4; cases h4)]
              exact h4
      · rintro σ H4 ⟨mk', v7', rfl, sm4, pn4, hma4, hmi4⟩
        refine ⟨k + (many + e).toNat, mk', _, _, _, rfl, sm4, pn4.mono (by omega), hma4, ?_, by omega⟩
        have e2 : ((i + 1 : Nat) : Int) = (i : Int) + 1 := by omega
        rw [e2]
        exact hmi4.next fun h => by have := hmem h; omega
    · rintro σ H' ⟨k, mk, v5, v6, v7, rfl, sm, pn, hma, hmi, hk⟩
      rw [en] at pn hmi hk
      refine ⟨_, rfl, go H' m mk ((Sm.of s1).trans sm) (pn.mono (by omega)) (hma.mono (by omega)) ?_ hmq⟩
      have e : ((os.length + 1 : Nat) : Int) = (os.length : Int) + 1 := by omega
      rw [e] at hmi
      exact hmi.done (by omega)
end
end Tg

-- part KJ
set_option Elab.async false
set_option linter.all false
set_option maxRecDepth 100000
set_option maxHeartbeats 4000000
namespace Tg
open PySem PySem.Spec PyProof.Rows L2 TgM
/-! ### _law_order_words -/
def nmOf (xs : List (List Nat)) (i : Int) : List Nat := xs.getD i.toNat []
theorem nmOf_mem {xs : List (List Nat)} {i : Int} (h0 : 0 ≤ i) (h1 : i < (xs.length : Int)) : nmOf xs i ∈ xs := by
  unfold nmOf
  have h : i.toNat < xs.length := by omega
  rw [List.getD_eq_getElem?_getD, List.getElem?_eq_getElem h]
  exact List.getElem_mem h
theorem nmOf_at {xs : List (List Nat)} {i : Int} (h0 : 0 ≤ i) (h1 : i < (xs.length : Int)) : atI (xs.map tx) i = some (tx (nmOf xs i)) := by
  have h : i.toNat < xs.length := by omega
  have e : i = ((i.toNat : Nat) : Int) := by omega
  rw [e]
  refine atI_nat ?_
  unfold nmOf
  rw [List.getElem?_map, List.getD_eq_getElem?_getD, Int.toNat_natCast, List.getElem?_eq_getElem h]
  rfl
def SignOk (rs cs : List (List Nat)) (M : List Nat → Prop) (s : Nat) (a : List Nat) : Prop := (s = 82 ∧ a ∈ rs) ∨ (s = 67 ∧ a ∈ cs) ∨ (s = 76 ∧ M a)
def inMk (mk : Int → List (List Nat)) (no : Nat) (a : List Nat) : Prop := ∃ p : Int, 0 ≤ p ∧ p ≤ (no : Int) ∧ a ∈ mk p
def WordsOk (rs cs : List (List Nat)) (M : List Nat → Prop) (ws : List (List Nat)) : Prop := ∃ (wd k : Str) (as : List (List Nat)), (wd, k) ∈ kinds ∧ ws = wd.cps.toList :: as ∧ Paired (SignOk rs cs M) k.cps.toList as
inductive OrdCls (nr nc no : Nat) : Str × List Int → Prop where
  | jump {p : Int} (h0 : 0 ≤ p) (h1 : p ≤ no) : OrdCls nr nc no ("jump", [p])
  | cond {wd k : Str} {js : List Int} {p : Int} (h1 : decide (V.str wd = V.str "jump") = false) (h2 : inV (.str wd) [.str "ifzero", .str "ifsame"] = true) (h3 : (wd, k) ∈ kinds) (h4 : k.cps.toList = List.replicate js.length 82 ++ [76])
      (h5 : ∀ i ∈ js, 0 ≤ i ∧ i < (nr : Int)) (h6 : 0 ≤ p) (h7 : p ≤ no) (h8 : js.length ≤ 2) (h9 : js ≠ []) (ha : labOf (wd, js ++ [p]) = some p) : OrdCls nr nc no (wd, js ++ [p])
  | rest {wd k : Str} {js : List Int} {b : Bool} (h1 : decide (V.str wd = V.str "jump") = false) (h2 : inV (.str wd) [.str "ifzero", .str "ifsame"] = false) (h3 : (wd, k) ∈ kinds) (hb : decide (V.str wd = V.str "paint") = b)
      (h4 : k.cps.toList = List.replicate js.length (if b then 67 else 82)) (h5 : ∀ i ∈ js, 0 ≤ i ∧ i < ((if b then nc else nr : Nat) : Int)) (h8 : js.length ≤ 2) : OrdCls nr nc no (wd, js)
theorem OrdOk.cls {nr nc no : Nat} {o : Str × List Int} (h : OrdOk nr nc no o) : OrdCls nr nc no o := by
  cases h with
  | @one w i hw h0 h1 =>
    have hb : ∀ j ∈ [i], 0 ≤ j ∧ j < (nr : Int) := fun j hj => by rw [List.mem_singleton.mp hj]; exact ⟨h0, h1⟩
    rcases hw with rfl | rfl | rfl
    · exact .rest (k := "R") (b := false) (by decide +kernel) (by decide +kernel) (by decide +kernel) (by decide +kernel) (by rfl) hb (by simp)
    · exact .rest (k := "R") (b := false) (by decide +kernel) (by decide +kernel) (by decide +kernel) (by decide +kernel) (by rfl) hb (by simp)
    · exact .rest (k := "R") (b := false) (by decide +kernel) (by decide +kernel) (by decide +kernel) (by decide +kernel) (by rfl) hb (by simp)
  | @two w i j hw h0 h1 h2 h3 =>
    have hb : ∀ x ∈ [i, j], 0 ≤ x ∧ x < (nr : Int) := fun x hx => by
      rcases List.mem_cons.mp hx with rfl | hx
      · exact ⟨h0, h1⟩
      · rw [List.mem_singleton.mp hx]
        exact ⟨h2, h3⟩
    rcases hw with rfl | rfl
    · exact .rest (k := "RR") (b := false) (by decide +kernel) (by decide +kernel) (by decide +kernel) (by decide +kernel) (by rfl) hb (by simp)
    · exact .rest (k := "RR") (b := false) (by decide +kernel) (by decide +kernel) (by decide +kernel) (by decide +kernel) (by rfl) hb (by simp)
  | jump h0 h1 => exact .jump h0 h1
  | @ifz i p h0 h1 h2 h3 => exact .cond (k := "RL") (js := [i]) (by decide +kernel) (by decide +kernel) (by decide +kernel) (by rfl) (fun j hj => by rw [List.mem_singleton.mp hj]; exact ⟨h0, h1⟩) h2 h3 (by simp) (by simp) (by kernel_rfl)
  | @ifs i j p h0 h1 h2 h3 h4 h5 =>
    have hb : ∀ x ∈ [i, j], 0 ≤ x ∧ x < (nr : Int) := fun x hx => by
      rcases List.mem_cons.mp hx with rfl | hx
      · exact ⟨h0, h1⟩
      · rw [List.mem_singleton.mp hx]
        exact ⟨h2, h3⟩
    exact .cond (k := "RRL") (js := [i, j]) (by decide +kernel) (by decide +kernel) (by decide +kernel) (by rfl) hb h4 h5 (by simp) (by simp) (by kernel_rfl)
  | @paint k h0 h1 => exact .rest (k := "C") (js := [k]) (b := true) (by decide +kernel) (by decide +kernel) (by decide +kernel) (by decide +kernel) (by rfl) (fun j hj => by rw [List.mem_singleton.mp hj]; exact ⟨h0, h1⟩) (by simp)
  | stop => exact .rest (k := "") (js := []) (b := false) (by decide +kernel) (by decide +kernel) (by decide +kernel) (by decide +kernel) (by rfl) (fun j hj => absurd hj List.not_mem_nil) (by simp)
theorem paired_names {rs cs : List (List Nat)} {M : List Nat → Prop} {b : Bool} : ∀ {js : List Int}, (∀ i ∈ js, 0 ≤ i ∧ i < (((if b then cs else rs).length : Nat) : Int)) → Paired (SignOk rs cs M) (List.replicate js.length (if b then 67 else 82)) (js.map (nmOf (if b then cs else rs)))
  | [], _ => .nil
  | i :: js, h => by
    refine .cons ?_ (paired_names fun j hj => h j (List.mem_cons_of_mem _ hj))
    obtain ⟨h0, h1⟩ := h i List.mem_cons_self
    have hm := nmOf_mem h0 h1
    cases b with
    | false => exact .inl ⟨rfl, hm⟩
    | true => exact .inr (.inl ⟨rfl, hm⟩)
theorem cut_mid (wd : Str) (p : Int) : ∀ js : List Int, js.length ≤ 2 → cutV (ordV (wd, js ++ [p])) (some 1) (some (-1)) = js.map V.int ∧ ¬ (HT.sIx (ordV (wd, js ++ [p])).length 0 (some 1) = 0 ∧ HT.sIx (ordV (wd, js ++ [p])).length (ordV (wd, js ++ [p])).length (some (-1)) = (ordV (wd, js ++ [p])).length)
  | [], _ => ⟨by kernel_rfl, fun h => absurd (show (1 : Nat) = 0 from h.1) (by decide)⟩
  | [a], _ => ⟨by kernel_rfl, fun h => absurd (show (1 : Nat) = 0 from h.1) (by decide)⟩
  | [a, b], _ => ⟨by kernel_rfl, fun h => absurd (show (1 : Nat) = 0 from h.1) (by decide)⟩
  | _ :: _ :: _ :: _, h => by simp at h
theorem cut_tail (wd : Str) : ∀ js : List Int, js.length ≤ 2 → cutV (ordV (wd, js)) (some 1) none = js.map V.int ∧ ¬ (HT.sIx (ordV (wd, js)).length 0 (some 1) = 0 ∧ HT.sIx (ordV (wd, js)).length (ordV (wd, js)).length none = (ordV (wd, js)).length)
  | [], _ => ⟨by kernel_rfl, fun h => absurd (show (1 : Nat) = 0 from h.1) (by decide)⟩
  | [a], _ => ⟨by kernel_rfl, fun h => absurd (show (1 : Nat) = 0 from h.1) (by decide)⟩
  | [a, b], _ => ⟨by kernel_rfl, fun h => absurd (show (1 : Nat) = 0 from h.1) (by decide)⟩
  | _ :: _ :: _ :: _, h => by simp at h
theorem at_int {js : List Int} {i : Nat} {x : V} (h : (js.map V.int)[i]? = some x) : ∃ j, js[i]? = some j ∧ x = V.int j := by
  rw [List.getElem?_map] at h
  cases e : js[i]? with
  | none => rw [e] at h; cases h
  | some j => rw [e] at h; exact ⟨j, rfl, (Option.some.inj h).symm⟩
section
variable {P : Program} {w : World} {K : PySem.W.Frag} {mg : Str → Option Value} {base : Heap}
abbrev nmWords : List Str := ["_law_pen_here", "_law_program_here", "_law_marks_here", "_law_order", "_law_named", "_law_names_here", "_law_place"]
def spWords : Sp := fun vs H Q _ => ∃ (c q d m t : Addr) (n B : Nat) (rs cs : List (List Nat)) (os : List (Str × List Int)) (mk : Int → List (List Nat)) (o : Str × List Int), vs = [.ref q, .ref d, .ref m, .ref t] ∧ PenAt c q n H ∧ n < 2 ^ 36 ∧ DrawnAt H d rs cs os ∧ rs.length ≤ 3 ∧ cs.length ≤ 3 ∧
  MarksAt H m mk B ∧ (∀ p, (mk p).length ≤ 2) ∧ (∀ p, labOf o = some p → mk p ≠ []) ∧ H t = some (.tup (ordV o)) ∧ OrdOk rs.length cs.length os.length o ∧ m ≠ q ∧ d ≠ q ∧
  ∀ (H' : Hp) (l : Addr) (ws : List (List Nat)), Sm q H H' → PenAt c q (n + 1) H' → H' l = some (.lst (ws.map tx)) → WordsOk rs cs (inMk mk os.length) ws → Q (.ref l) H'
theorem scWords : FnScope nmWords ["_law_pen_here", "_law_program_here", "_law_marks_here", "_law_order"] (defScope (top 59)) := ⟨rfl, rfl, rfl, by decide +kernel, rfl, by decide +kernel, by decide +kernel⟩
theorem ok_words (T : Txt K mg w) : Cal P w K mg base 3 "_law_order_words" spWords := by
  refine cal_of (N := nmWords) (ps := ["_law_pen_here", "_law_program_here", "_law_marks_here", "_law_order"]) (T.d 27) scWords (fun _ _ _ _ _ _ us hl => match us, hl with | [_, _, _, _], _ => rfl) (fun vs H Q E h => ?_) (fun f0 cdv A outer s H vs Q E hr h => ?_)
  · obtain ⟨c, q, d, m, t, n, B, rs, cs, os, mk, o, rfl, _⟩ := h
    rfl
  · obtain ⟨c, q, d, m, t, n, B, rs, cs, os, mk, o, rfl, pen, hn, ⟨lr, lc, lo, hd, hlr, hlc, hlo⟩, hr3, hc3, ⟨kvs, hkv, _, hkp⟩, hmk2, hlab, ht, hok, hmq, hdq, go⟩ := h
    have nd := scWords.nd
    have hu := hu_of hr
    have A0 : ∀ (p1 p2 p3 : Pos) (j : Nat), PE _ (.Subscript (.Name "_law_order" p1) (.Constant (.int 0) j p2) p3) (tOp (rIxT K) (tVar 3) (tC (.int 0))) := fun p1 p2 p3 j => pe_ix (X := (cxOf CX0 P w K mg base nmWords "_law_order_words" (defScope (top 59)) f0 cdv A outer s H E).nox) (r := rIxT K) ix_tup (pv 3) pe_int (fun _ _ => rfl)
    refine ⟨_, pss_cons (ps_if (pt_cmpR op_eq (A0 _ _ _ _) pe_str (nomark _))
        (pss_one (ps_ret (pe_lst (pa_cons pe_str (pa_cons (pe_c (ok_pick T) hr (by decide) (pa_cons (pv 0) (pa_cons (pe_dget hu (pv 2) (pe_ix (r := rIxT K) ix_tup (pv 3) pe_int (fun _ _ => rfl)) (fun _ _ => rfl)) pa_nil))) pa_nil)))))
        pss_nil)
      (pss_cons (ps_if (pt_cmpR op_in_seq (A0 _ _ _ _) (pe_lst (pa_cons pe_str (pa_cons pe_str pa_nil))) (by rfl))
        (pss_cons (ps_setLc (i := 4) (own := [("_law_place", 6)]) (g := gName 6) (tt := tYes) rfl nd rfl rfl (sw_true rfl rfl rfl (by decide +kernel)) (pi_tup (pe_slice sl_tup (pv 3) (po_some pe_int) (po_some (pe_un un_neg pe_int)))) (blkOk_by (N := nmWords) (sc := defScope (top 59)) (by decide +kernel))
          (fun _ _ _ _ _ => pg_name (i := 6) nd rfl (.inl rfl)) (fun _ _ _ _ _ => pts_nil) (fun _ _ _ _ _ => pe_ix (r := rIxL K) ix_list (pe_dget hu (pv 1) pe_str (fun _ _ => rfl)) (pv 6) (fun _ _ => rfl)))
        (pss_one (ps_ret (pe_op op_cat (pe_op op_cat (pe_lst (pa_cons (A0 _ _ _ _) pa_nil)) (pv 4)) (pe_lst (pa_cons (pe_c (ok_pick T) hr (by decide) (pa_cons (pv 0) (pa_cons (pe_dget hu (pv 2) (pe_ix (r := rIxT K) ix_tup (pv 3) (pe_un un_neg pe_int) (fun _ _ => rfl)) (fun _ _ => rfl)) pa_nil))) pa_nil))))))
        pss_nil)
      (C8.pss_cut (ps_set (i := 5) nd rfl (.inr rfl) (pe_ifExp (pt_cmpR op_eq (A0 _ _ _ _) pe_str (nomark _)) (pe_dget hu (pv 1) pe_str (fun _ _ => rfl)) (pe_dget hu (pv 1) pe_str (fun _ _ => rfl))))
      (pss_one (ps_ret (pe_op op_cat (pe_lst (pa_cons (A0 _ _ _ _) pa_nil)) (pe_lc (own := [("_law_place", 6)]) (g := gName 6) (tt := tYes) rfl nd (pi_tup (pe_slice sl_tup (pv 3) (po_some pe_int) po_none)) (blkOk_by (N := nmWords) (sc := defScope (top 59)) (by decide +kernel))
          (fun _ _ _ _ _ => pg_name (i := 6) nd rfl (.inl rfl)) (fun _ _ _ _ _ => pts_nil) (fun _ _ _ _ _ => pe_ix (r := rIxL K) ix_list (pv 5) (pv 6) (fun _ _ => rfl)))))))), ?_⟩
    have hmark : ∀ p, mk p ≠ [] → ∃ l : Addr, (∀ H' : Hp, H' m = some (.dK kvs) → DGet H' m (.int p) (some (.ref l))) ∧ H l = some (.lst ((mk p).map tx)) := fun p hp => by
      rcases hkp p with ⟨h, _⟩ | ⟨_, l, h2, h3⟩
      · exact absurd h hp
      · exact ⟨l, fun H' h => by
          have z := DGet.k (k := .inl p) h
          rw [h2] at z
          exact z, h3⟩
    have hxm : ∀ {p : Int} {x : V}, x ∈ (mk p).map tx → ∃ a, a ∈ mk p ∧ x = tx a := fun hx => by
      obtain ⟨a, ha, e⟩ := List.mem_map.mp hx
      exact ⟨a, ha, e.symm⟩
    have tE : ∀ wd : Str, V.str wd = tx wd.cps.toList := fun wd => congrArg V.str (SX.S_tl wd).symm
    cases hok.cls with
    | @jump p h0 h1 =>
      have hne := hlab p (by kernel_rfl)
      obtain ⟨l, hg, hl⟩ := hmark p hne
      refine ⟨_, rfl, t, _, 0, _, rfl, rfl, SqT.of ht, atI_nat (j := 0) rfl, rfl, _, rfl, iteY (decide_eq_true rfl) ?_⟩
      refine ⟨_, rfl, _, rfl, _, rfl, t, _, 1, .int p, rfl, rfl, SqT.of ht, atI_nat (j := 1) rfl, m, _, rfl, hg _ hkv, c, q, l, n, _, rfl, pen, by omega, SqL.of hl, by rw [List.length_map]; exact List.length_pos_iff.mpr hne, by rw [List.length_map]; have := hmk2 p; omega, fun H1 x s1 p1 hx => ⟨by show 2 ≤ sizeLine; decide, fun D hD => ?_⟩⟩
      obtain ⟨a, ha, rfl⟩ := hxm hx
      refine go _ D [("jump" : Str).cps.toList, a] (s1.trans (Sm.of (same_upd hD))) (p1.upd hD) (by rw [upd_same, tE] <;> rfl) ⟨"jump", "L", [a], by decide +kernel, rfl, .cons (.inr (.inr ⟨rfl, p, h0, h1, ha⟩)) .nil⟩
    | @cond wd k js p h1 h2 h3 h4 h5 h6 h7 h8 h9 ha =>
      have hne := hlab p ha
      obtain ⟨l, hg, hl⟩ := hmark p hne
      obtain ⟨hcut, hnw⟩ := cut_mid wd p js h8
      refine ⟨_, rfl, t, _, 0, _, rfl, rfl, SqT.of ht, atI_nat (j := 0) rfl, rfl, _, rfl, iteN h1 ?_⟩
      refine ⟨_, rfl, t, _, 0, _, rfl, rfl, SqT.of ht, atI_nat (j := 0) rfl, by show 2 ≤ sizeLine; decide, fun q1 hq1 => ⟨q1, _, rfl, .inl (SqL.of upd_same), rfl, rfl, _, rfl, iteY h2 ?_⟩⟩
      have S1 := same_upd (o := .lst [.str "ifzero", .str "ifsame"]) hq1
      refine ⟨_, rfl, _, rfl, _, rfl, _, rfl, t, _, rfl, SqT.of (S1 _ _ ht), hnw, fun q2 hq2 => ?_⟩
      have S2 := S1.trans (same_upd (o := .tup (cutV (ordV (wd, js ++ [p])) (some 1) (some (-1)))) hq2)
      have hq2' := upd_same (H := upd H q1 (.lst [.str "ifzero", .str "ifsame"])) (a := q2) (o := .tup (cutV (ordV (wd, js ++ [p])) (some 1) (some (-1))))
      rw [hcut] at S2 hq2' ⊢
      refine ⟨q2, rfl, ⟨_, SqT.of hq2'⟩, fun D hD => ?_⟩
      have pn2 := (pen.upd (o := .lst [.str "ifzero", .str "ifsame"]) hq1).upd (o := .tup (js.map V.int)) hq2
      generalize upd (upd H q1 (.lst [.str "ifzero", .str "ifsame"])) q2 (.tup (js.map V.int)) = H2 at S2 hq2' hD pn2 ⊢
      have hDq : D ≠ q := pn2.ne_none hD
      refine lc_tup (K := K) (a := q2) (xs := js.map V.int) (fun i H' => Same H2 H' ∧ H' D = some (.lst ((((js.take i).map (nmOf rs))).map tx))) ⟨same_upd hD, upd_same⟩ (fun i H' _ h => SqT.of (h.1 _ _ hq2')) ?_ ?_
      · rintro i x H' hi ⟨s1, g1⟩
        obtain ⟨j, hj, rfl⟩ := at_int hi
        obtain ⟨j0, j1⟩ := h5 j (List.mem_of_getElem? hj)
        have eo : js.take (i + 1) = js.take i ++ [j] := by rw [List.take_add_one, hj] <;> rfl
        refine ⟨rfl, _, rfl, d, _, rfl, dg_regs (s1 _ _ (S2 _ _ hd)), _, rfl, lr, _, _, _, rfl, rfl, SqL.of (s1 _ _ (S2 _ _ hlr)), nmOf_at j0 j1, _, g1, ?_, same_new s1 hD, ?_⟩
        · rw [List.length_map, List.length_map, List.length_take]
          exact small1000 (by omega)
        · rw [eo, List.map_append, upd_same, List.map_append]
          rfl
      rintro H3 ⟨s3, g3⟩
      rw [List.length_map, List.take_length] at g3
      have S3 := S2.trans s3
      have pn3 : PenAt c q n H3 := by
        obtain ⟨⟨ms, g1⟩, a', d', k', f', g2, z⟩ := pn2
        exact ⟨⟨ms, s3 _ _ g1⟩, a', d', k', f', s3 _ _ g2, z⟩
      clear S1 S2 s3 pn2 hq2' hD hq1 hq2
      refine ⟨_, rfl, t, _, 0, _, rfl, rfl, SqT.of (S3 _ _ ht), atI_nat (j := 0) rfl, by show 1 ≤ sizeLine; decide, fun q3 hq3 => ?_⟩
      have S4 := same_upd (o := .lst [.str wd]) hq3
      refine ⟨_, rfl, q3, D, _, _, rfl, rfl, upd_same, S4 _ _ g3, by rw [List.length_map, List.length_map, sizeLine_eq]; show 1 + js.length ≤ 16777216; omega, fun q4 hq4 => ?_⟩
      have S5 := S4.trans (same_upd (o := .lst ([.str wd] ++ (js.map (nmOf rs)).map tx)) hq4)
      have g4 := upd_same (H := upd H3 q3 (.lst [.str wd])) (a := q4) (o := .lst ([.str wd] ++ (js.map (nmOf rs)).map tx))
      have pn4 := (pn3.upd (o := .lst [.str wd]) hq3).upd (o := .lst ([.str wd] ++ (js.map (nmOf rs)).map tx)) hq4
      have S35 := S3.trans S5
      have hlast : atI (ordV (wd, js ++ [p])) (-1) = some (.int p) := by
        have e : ordV (wd, js ++ [p]) = (.str wd :: js.map V.int) ++ [.int p] := by
          show V.str wd :: (js ++ [p]).map V.int = _
          rw [List.map_append]
          rfl
        rw [e]
        exact atI_last _ _
      refine ⟨_, rfl, _, rfl, _, rfl, _, rfl, t, _, _, _, rfl, rfl, SqT.of (S35 _ _ ht), hlast, m, _, rfl, hg _ (S35 _ _ hkv), c, q, l, n, _, rfl, pn4, by omega, SqL.of (S35 _ _ hl), by rw [List.length_map]; exact List.length_pos_iff.mpr hne, by rw [List.length_map]; have := hmk2 p; omega, fun H5 x s5 p5 hx => ⟨by show 1 ≤ sizeLine; decide, fun q5 hq5 => ?_⟩⟩
      obtain ⟨a, ha, rfl⟩ := hxm hx
      have S6 := same_upd (o := .lst [tx a]) hq5
      have g5 := S6 _ _ (s5.lst pn4 g4)
      refine ⟨q4, q5, _, _, rfl, rfl, g5, upd_same, by rw [List.length_append, List.length_map, List.length_map, sizeLine_eq]; show 1 + js.length + 1 ≤ 16777216; omega, fun q6 hq6 => ?_⟩
      have S7 := same_upd (o := .lst ([.str wd] ++ (js.map (nmOf rs)).map tx ++ [tx a])) hq6
      refine go _ q6 (wd.cps.toList :: (js.map (nmOf rs) ++ [a])) ((Sm.of S35).trans (s5.trans (Sm.of (S6.trans S7)))) ((p5.upd (o := .lst [tx a]) hq5).upd (o := .lst ([.str wd] ++ (js.map (nmOf rs)).map tx ++ [tx a])) hq6) ?_ ⟨wd, k, _, h3, rfl, ?_⟩
      · rw [upd_same, tE, List.map_cons, List.map_append]
        rfl
      · rw [h4]
        exact paired_app (paired_names (b := false) h5) (.cons (.inr (.inr ⟨rfl, p, h6, h7, ha⟩)) .nil)
    | @rest wd k js b h1 h2 h3 hb h4 h5 h8 =>
      obtain ⟨hcut, hnw⟩ := cut_tail wd js h8
      refine ⟨_, rfl, t, _, 0, _, rfl, rfl, SqT.of ht, atI_nat (j := 0) rfl, rfl, _, rfl, iteN h1 ?_⟩
      refine ⟨_, rfl, t, _, 0, _, rfl, rfl, SqT.of ht, atI_nat (j := 0) rfl, by show 2 ≤ sizeLine; decide, fun q1 hq1 => ⟨q1, _, rfl, .inl (SqL.of upd_same), rfl, rfl, _, rfl, iteN h2 ?_⟩⟩
      have S1 := same_upd (o := .lst [.str "ifzero", .str "ifsame"]) hq1
      have pn1 := pen.upd (o := .lst [.str "ifzero", .str "ifsame"]) hq1
      have S1' := S1
      generalize upd H q1 (.lst [.str "ifzero", .str "ifsame"]) = H1 at S1 pn1 ⊢
      refine ⟨fun σ2 H2 => H2 = H1 ∧ ∃ lx : Addr, σ2 = [some (.ref q), some (.ref d), some (.ref m), some (.ref t), none, some (.ref lx), none] ∧ H1 lx = some (.lst ((if b then cs else rs).map tx)), ?_, ?_⟩
      · refine ⟨_, rfl, t, _, 0, _, rfl, rfl, SqT.of (S1 _ _ ht), atI_nat (j := 0) rfl, rfl, _, rfl, ?_⟩
        cases b with
        | true => exact iteY hb ⟨_, rfl, d, _, rfl, dg_cols (S1 _ _ hd), rfl, lc, rfl, S1 _ _ hlc⟩
        | false => exact iteN hb ⟨_, rfl, d, _, rfl, dg_regs (S1 _ _ hd), rfl, lr, rfl, S1 _ _ hlr⟩
      rintro σ2 H2 ⟨rfl, lx, rfl, hlx⟩
      have h5' : ∀ i ∈ js, 0 ≤ i ∧ i < (((if b then cs else rs).length : Nat) : Int) := fun i hi => by
        obtain ⟨a0, a1⟩ := h5 i hi
        cases b with
        | true => exact ⟨a0, a1⟩
        | false => exact ⟨a0, a1⟩
      have hpn := paired_names (rs := rs) (cs := cs) (M := inMk mk os.length) (b := b) h5'
      generalize (if b then cs else rs) = ns at hlx h5' hpn
      refine ⟨_, rfl, t, _, 0, _, rfl, rfl, SqT.of (S1 _ _ ht), atI_nat (j := 0) rfl, by show 1 ≤ sizeLine; decide, fun q3 hq3 => ?_⟩
      have S3 := same_upd (o := .lst [.str wd]) hq3
      have pn3 := pn1.upd (o := .lst [.str wd]) hq3
      have g3 := upd_same (H := H2) (a := q3) (o := .lst [.str wd])
      refine ⟨_, rfl, _, rfl, t, _, rfl, SqT.of (S3 _ _ (S1 _ _ ht)), hnw, fun q4 hq4 => ?_⟩
      have S4 := same_upd (o := .tup (cutV (ordV (wd, js)) (some 1) none)) hq4
      have g4 := upd_same (H := upd H2 q3 (.lst [.str wd])) (a := q4) (o := .tup (cutV (ordV (wd, js)) (some 1) none))
      have pn4 := pn3.upd (o := .tup (cutV (ordV (wd, js)) (some 1) none)) hq4
      rw [hcut] at S4 g4 pn4 ⊢
      refine ⟨q4, rfl, ⟨_, SqT.of g4⟩, fun D hD => ?_⟩
      have g34 := S4 _ _ g3
      have S14 := S3.trans S4
      generalize upd (upd H2 q3 (.lst [.str wd])) q4 (.tup (js.map V.int)) = H4 at S14 g34 g4 hD pn4 ⊢
      refine lc_tup (K := K) (a := q4) (xs := js.map V.int) (fun i H' => Same H4 H' ∧ H' D = some (.lst ((((js.take i).map (nmOf ns))).map tx))) ⟨same_upd hD, upd_same⟩ (fun i H' _ h => SqT.of (h.1 _ _ g4)) ?_ ?_
      · rintro i x H' hi ⟨s1, g1⟩
        obtain ⟨j, hj, rfl⟩ := at_int hi
        obtain ⟨j0, j1⟩ := h5' j (List.mem_of_getElem? hj)
        have eo : js.take (i + 1) = js.take i ++ [j] := by rw [List.take_add_one, hj] <;> rfl
        refine ⟨rfl, _, rfl, _, rfl, lx, _, _, _, rfl, rfl, SqL.of (s1 _ _ (S14 _ _ hlx)), nmOf_at j0 j1, _, g1, ?_, same_new s1 hD, ?_⟩
        · rw [List.length_map, List.length_map, List.length_take]
          exact small1000 (by omega)
        · rw [eo, List.map_append, upd_same, List.map_append]
          rfl
      rintro H5 ⟨s5, g5⟩
      rw [List.length_map, List.take_length] at g5
      have pn5 : PenAt c q n H5 := by
        obtain ⟨⟨ms, g1⟩, a', d', k', f', g2, z⟩ := pn4
        exact ⟨⟨ms, s5 _ _ g1⟩, a', d', k', f', s5 _ _ g2, z⟩
      refine ⟨q3, D, _, _, rfl, rfl, s5 _ _ g34, g5, by rw [List.length_map, List.length_map, sizeLine_eq]; show 1 + js.length ≤ 16777216; omega, fun q6 hq6 => ?_⟩
      have S6 := same_upd (o := .lst ([.str wd] ++ (js.map (nmOf ns)).map tx)) hq6
      refine go _ q6 (wd.cps.toList :: js.map (nmOf ns)) (Sm.of (S1.trans (S14.trans (s5.trans S6)))) ((pn5.mono (by omega)).upd hq6) ?_ ⟨wd, k, _, h3, rfl, ?_⟩
      · rw [upd_same, tE, List.map_cons]
        rfl
      · rw [h4]
        exact hpn
end
end Tg

-- part KK
set_option Elab.async false
set_option linter.all false
set_option maxRecDepth 100000
set_option maxHeartbeats 4000000
namespace Tg
open PySem PySem.Spec PyProof.Rows L2 TgM
/-! ### _law_program_lines -/
inductive BI where
  | mk (nm : List Nat)
  | od (ws : List (List Nat))
abbrev atL : List Nat := ("at" : Str).cps.toList
def BI.words : BI → List (List Nat)
  | .mk nm => [atL, nm]
  | .od ws => ws
def marksOf (bs : List BI) : List (List Nat) := bs.filterMap fun | .mk nm => some nm | .od _ => none
theorem marksOf_app (a b : List BI) : marksOf (a ++ b) = marksOf a ++ marksOf b := List.filterMap_append
theorem marksOf_mks (l : List (List Nat)) : marksOf (l.map BI.mk) = l := by
  unfold marksOf
  rw [List.filterMap_map]
  exact List.filterMap_some
structure BodyOk (rs cs : List (List Nat)) (bs : List BI) : Prop where
  nd : (marksOf bs).Nodup
  nm : ∀ a ∈ marksOf bs, NameL a
  od : ∀ ws, BI.od ws ∈ bs → WordsOk rs cs (fun a => a ∈ marksOf bs) ws
  sz : bs.length ≤ 40
structure BodyTo (rs cs : List (List Nat)) (no : Nat) (mk : Int → List (List Nat)) (i : Nat) (bs : List BI) : Prop where
  nd : (marksOf bs).Nodup
  mem : ∀ a, a ∈ marksOf bs ↔ ∃ p : Nat, p < i ∧ a ∈ mk p
  od : ∀ ws, BI.od ws ∈ bs → WordsOk rs cs (inMk mk no) ws
  sz : bs.length ≤ 3 * i
theorem WordsOk.mono {rs cs : List (List Nat)} {M N : List Nat → Prop} {ws : List (List Nat)} (h : WordsOk rs cs M ws) (hm : ∀ a, M a → N a) : WordsOk rs cs N ws := by
  obtain ⟨wd, k, as, h1, h2, h3⟩ := h
  refine ⟨wd, k, as, h1, h2, L2.Paired.mapP h3 fun s a h => ?_⟩
  rcases h with h | h | ⟨h, h'⟩
  · exact .inl h
  · exact .inr (.inl h)
  · exact .inr (.inr ⟨h, hm a h'⟩)
theorem BodyTo.start {rs cs : List (List Nat)} {no : Nat} {mk : Int → List (List Nat)} : BodyTo rs cs no mk 0 [] :=
  ⟨List.nodup_nil, fun a => ⟨fun h => absurd h List.not_mem_nil, fun ⟨p, hp, _⟩ => absurd hp (Nat.not_lt_zero p)⟩, fun _ h => absurd h List.not_mem_nil, Nat.le_refl _⟩
theorem BodyTo.step {rs cs : List (List Nat)} {named : List Int} {no : Nat} {mk : Int → List (List Nat)} {i : Nat} {bs os : List BI} (b : BodyTo rs cs no mk i bs) (m : MarksOk named no mk)
    (ho : os.length ≤ 1) (h : ∀ x ∈ os, ∃ ws, x = BI.od ws ∧ WordsOk rs cs (inMk mk no) ws) : BodyTo rs cs no mk (i + 1) (bs ++ (mk i).map BI.mk ++ os) := by
  have hos : marksOf os = [] := by
    unfold marksOf
    refine List.filterMap_eq_nil_iff.mpr fun x hx => ?_
    obtain ⟨ws, rfl, _⟩ := h x hx
    rfl
  have e : marksOf (bs ++ (mk i).map BI.mk ++ os) = marksOf bs ++ mk i := by rw [marksOf_app, marksOf_app, marksOf_mks, hos, List.append_nil]
  refine ⟨?_, fun a => ?_, fun ws hw => ?_, ?_⟩
  · rw [e, List.nodup_append]
    refine ⟨b.nd, m.nd i, fun a ha c hc z => ?_⟩
    obtain ⟨p, hp, h1⟩ := (b.mem a).mp ha
    have := m.dj _ _ a h1 (z ▸ hc)
    omega
  · rw [e, List.mem_append, b.mem a]
    constructor
    · rintro (⟨p, hp, h1⟩ | h1)
      · exact ⟨p, by omega, h1⟩
      · exact ⟨i, by omega, h1⟩
    · rintro ⟨p, hp, h1⟩
      by_cases hpi : p = i
      · subst hpi
        exact .inr h1
      · exact .inl ⟨p, by omega, h1⟩
  · rw [List.mem_append, List.mem_append] at hw
    rcases hw with (hw | hw) | hw
    · exact b.od ws hw
    · obtain ⟨nm, _, z⟩ := List.mem_map.mp hw
      cases z
    · obtain ⟨ws', z, h2⟩ := h _ hw
      cases z
      exact h2
  · rw [List.length_append, List.length_append, List.length_map]
    have := b.sz
    have := m.sz i
    omega
theorem BodyTo.done {rs cs : List (List Nat)} {named : List Int} {no : Nat} {mk : Int → List (List Nat)} {bs : List BI} (b : BodyTo rs cs no mk (no + 1) bs) (m : MarksOk named no mk) (hn : no ≤ 8) : BodyOk rs cs bs :=
  ⟨b.nd, fun a ha => by
    obtain ⟨p, _, h1⟩ := (b.mem a).mp ha
    exact m.nm _ a h1, fun ws hw => (b.od ws hw).mono fun a ⟨p, p0, p1, h1⟩ => (b.mem a).mpr ⟨p.toNat, by omega, by rw [Int.toNat_of_nonneg p0]; exact h1⟩, by have := b.sz; omega⟩
def LinesAt (H : Hp) (l : Addr) (wss : List (List (List Nat))) : Prop := ∃ ls : List Addr, H l = some (.lst (ls.map V.ref)) ∧ Paired (fun b ws => H b = some (.lst (ws.map tx))) ls wss
def headL (rs cs : List (List Nat)) : List (List (List Nat)) := [("registers" : Str).cps.toList :: rs, ("colours" : Str).cps.toList :: cs]
section
variable {P : Program} {w : World} {K : PySem.W.Frag} {mg : Str → Option Value} {base : Heap}
abbrev nmLines : List Str := ["_law_pen_here", "_law_program_here", "_law_lines", "_law_marks_here", "_law_number", "_law_name_here"]
def spLines : Sp := fun vs H Q _ => ∃ (c q d : Addr) (n : Nat) (rs cs : List (List Nat)) (os : List (Str × List Int)), vs = [.ref q, .ref d] ∧ PenAt c q n H ∧ n < 2 ^ 34 ∧ DrawnAt H d rs cs os ∧ Good rs cs os ∧ d ≠ q ∧
  ∀ (H' : Hp) (l : Addr) (bs : List BI), Sm q H H' → PenAt c q (n + 60) H' → LinesAt H' l (headL rs cs ++ bs.map BI.words) → BodyOk rs cs bs → Q (.ref l) H'
theorem scLines : FnScope nmLines ["_law_pen_here", "_law_program_here"] (defScope (top 60)) := ⟨rfl, rfl, rfl, by decide +kernel, rfl, by decide +kernel, by decide +kernel⟩
theorem ok_lines (T : Txt K mg w) : Cal P w K mg base 4 "_law_program_lines" spLines := by
  refine cal_of (N := nmLines) (ps := ["_law_pen_here", "_law_program_here"]) (T.d 28) scLines (fun _ _ _ _ _ _ us hl => match us, hl with | [_, _], _ => rfl) (fun vs H Q E h => ?_) (fun f0 cdv A outer s H vs Q E hr h => ?_)
  · obtain ⟨c, q, d, n, rs, cs, os, rfl, _⟩ := h
    rfl
  · obtain ⟨c, q, d, n, rs, cs, os, rfl, pen, hn, hdr, gd, hdq, go⟩ := h
    have nd := scLines.nd
    have hu := hu_of hr
    refine ⟨_, pss_cons (ps_set (i := 2) nd rfl (.inl rfl) (pe_lst (pa_cons (pe_op op_cat (pe_lst (pa_cons pe_str pa_nil)) (pe_dget hu (pv 1) pe_str (fun _ _ => rfl))) (pa_cons (pe_op op_cat (pe_lst (pa_cons pe_str pa_nil)) (pe_dget hu (pv 1) pe_str (fun _ _ => rfl))) pa_nil))))
      (pss_cons (ps_set (i := 3) nd rfl (.inl rfl) (pe_c (ok_marks T) hr (by decide) (pa_cons (pv 0) (pa_cons (pv 1) pa_nil))))
      (pss_cons (ps_for PassesOwn.never rfl (pi_range1 rfl (T.free "range") (pa_cons (pe_op op_add (pe_callB call_len_seq (by rfl) (T.free "len") PySem.boot_len (pa_cons (pe_dget hu (pv 1) pe_str (fun _ _ => rfl)) pa_nil)) pe_int) pa_nil)) (pg_name (i := 4) nd rfl (.inl rfl))
        (pss_cons (ps_set (i := 2) nd rfl (.inl rfl) (pe_op op_cat (pv 2) (pe_lc (own := [("_law_name_here", 5)]) (g := gName 5) (tt := tYes) rfl nd (pi_list (pe_dget2 hu (pv 3) (pv 4) (pe_lst pa_nil) ⟨rfl, rfl, rfl, rfl⟩)) (blkOk_by (N := nmLines) (sc := defScope (top 60)) (by decide +kernel))
            (fun _ _ _ _ _ => pg_name (i := 5) nd rfl (.inl rfl)) (fun _ _ _ _ _ => pts_nil) (fun _ _ _ _ _ => pe_lst (pa_cons pe_str (pa_cons (pv 5) pa_nil))))))
        (pss_one (ps_if (pt_cmpR op_lt (pv 4) (pe_callB call_len_seq (by rfl) (T.free "len") PySem.boot_len (pa_cons (pe_dget hu (pv 1) pe_str (fun _ _ => rfl)) pa_nil)) (nomark _))
          (pss_one (ps_expr (pe_bm PySem.F.plainAttrs_list PySem.F.slot_list_append PySem.F.type_list_append mt_append (pv 2) (pa_cons (pe_c (ok_words T) hr (by decide) (pa_cons (pv 0) (pa_cons (pv 1) (pa_cons (pv 3) (pa_cons (pe_ix ix_list (pe_dget hu (pv 1) pe_str (fun _ _ => rfl)) (pv 4) (fun _ _ => rfl)) pa_nil))))) pa_nil))))
          pss_nil))))
      (pss_one (ps_ret (pv 2))))), ?_⟩
    obtain ⟨lr, lc, lo, hd, hlr, hlc, ts, hlo, hpr⟩ := hdr
    have hlen : ts.length = os.length := hpr.length
    have o8 := gd.o8
    -- lines = [["registers"] + .., ["colours"] + ..]
    refine ⟨by show 1 ≤ sizeLine; decide, fun a1 h1 => ?_⟩
    have S1 := same_upd (o := .lst [.str "registers"]) h1
    refine ⟨_, rfl, d, _, rfl, dg_regs (S1 _ _ hd), a1, lr, _, _, rfl, rfl, upd_same, S1 _ _ hlr, by rw [List.length_map, sizeLine_eq]; have := gd.r3; show 1 + rs.length ≤ 16777216; omega, fun a2 h2 => ?_⟩
    have S2 := S1.trans (same_upd (o := .lst ([.str "registers"] ++ rs.map tx)) h2)
    have g2 := upd_same (H := upd H a1 (.lst [.str "registers"])) (a := a2) (o := .lst ([.str "registers"] ++ rs.map tx))
    have p2 := (pen.upd (o := .lst [.str "registers"]) h1).upd (o := .lst ([.str "registers"] ++ rs.map tx)) h2
    generalize upd (upd H a1 (.lst [.str "registers"])) a2 (.lst ([.str "registers"] ++ rs.map tx)) = H2 at S2 g2 p2 ⊢
    refine ⟨by show 1 ≤ sizeLine; decide, fun a3 h3 => ?_⟩
    have S3 := same_upd (o := .lst [.str "colours"]) h3
    refine ⟨_, rfl, d, _, rfl, dg_cols (S3 _ _ (S2 _ _ hd)), a3, lc, _, _, rfl, rfl, upd_same, S3 _ _ (S2 _ _ hlc), by rw [List.length_map, sizeLine_eq]; have := gd.c3; show 1 + cs.length ≤ 16777216; omega, fun a4 h4 => ?_⟩
    have S4 := S3.trans (same_upd (o := .lst ([.str "colours"] ++ cs.map tx)) h4)
    have g4 := upd_same (H := upd H2 a3 (.lst [.str "colours"])) (a := a4) (o := .lst ([.str "colours"] ++ cs.map tx))
    have p4 := (p2.upd (o := .lst [.str "colours"]) h3).upd (o := .lst ([.str "colours"] ++ cs.map tx)) h4
    generalize upd (upd H2 a3 (.lst [.str "colours"])) a4 (.lst ([.str "colours"] ++ cs.map tx)) = H4 at S4 g4 p4 ⊢
    refine ⟨by show 2 ≤ sizeLine; decide, fun L hL => ?_⟩
    have S5 := same_upd (o := .lst [.ref a2, .ref a4]) hL
    have g5 := upd_same (H := H4) (a := L) (o := .lst [.ref a2, .ref a4])
    have g52 := S5 _ _ (S4 _ _ g2)
    have g54 := S5 _ _ g4
    have p5 := p4.upd (o := .lst [.ref a2, .ref a4]) hL
    have S05 := S2.trans (S4.trans S5)
    generalize upd H4 L (.lst [.ref a2, .ref a4]) = H5 at S05 g5 g52 g54 p5 ⊢
    clear S1 S2 S3 S4 S5 g2 g4 p2 p4 hL h1 h2 h3 h4
    -- marks
    refine ⟨_, rfl, _, rfl, c, q, d, n, rs, cs, os, rfl, p5, by omega, ⟨lr, lc, lo, S05 _ _ hd, S05 _ _ hlr, S05 _ _ hlc, ts, S05 _ _ hlo, L2.Paired.mapP hpr fun t o h => S05 _ _ h⟩, gd, hdq, fun H6 m mk s6 p6 ⟨kvs, hkv, hkl, hkp⟩ hmo hmq => ?_⟩
    have S06 : Sm q H H6 := (Sm.of S05).trans s6
    have hL6 : LinesAt H6 L (headL rs cs ++ ([] : List BI).map BI.words) := ⟨[a2, a4], s6.lst p5 g5, .cons (s6.lst p5 g52) (.cons (s6.lst p5 g54) .nil)⟩
    have hd6 := S06 _ _ hdq hd
    have hlo6 := S06.lst pen hlo
    refine ⟨_, rfl, d, _, rfl, dg_orders hd6, lo, _, rfl, .inl (SqL.of hlo6), _, _, rfl, rfl, _, rfl, by rw [List.length_map]; omega, by rw [List.length_map]; omega, ?_⟩
    have en : ((((ts.map V.ref).length : Nat) : Int) + 1).toNat = os.length + 1 := by rw [List.length_map]; omega
    show ∃ W : Nat → Nat → L2.St → Hp → Prop, _
    refine for_range (lo := 0) (n := ((((ts.map V.ref).length : Nat) : Int) + 1).toNat) (fun i σ H' => ∃ (L : Addr) (bs : List BI) (v4 : Option V), σ = [some (.ref q), some (.ref d), some (.ref L), some (.ref m), v4, none] ∧
      Sm q H6 H' ∧ PenAt c q (n + 40 + i) H' ∧ LinesAt H' L (headL rs cs ++ bs.map BI.words) ∧ BodyTo rs cs os.length mk i bs) ?_ ?_ ?_
    · exact ⟨L, [], none, rfl, Sm.refl H6, p6, hL6, BodyTo.start⟩
    · rintro i σ H' hi ⟨L', bs, v4, rfl, sm, pn, ⟨ls, hls, hps⟩, hb⟩
      rw [en] at hi
      have hll : ls.length ≤ 2 + 3 * i := by
        have h1 : ls.length = (headL rs cs ++ bs.map BI.words).length := hps.length
        rw [List.length_append, List.length_map] at h1
        have h2 := hb.sz
        have h3 : (headL rs cs).length = 2 := rfl
        omega
      have hkv' := sm _ _ hmq hkv
      rw [Int.zero_add]
      -- marks.get(number, [])
      refine ⟨_, rfl, _, rfl, m, rfl, .inl ⟨_, .inl hkv'⟩, _, rfl, Nat.zero_le _, fun p0 hp0 => ?_⟩
      have S1 := same_upd (o := .lst []) hp0
      have pn1 := pn.upd (o := .lst []) hp0
      refine ⟨_, DGet.k (k := .inl ((i : Int))) (S1 _ _ hkv'), ?_⟩
      obtain ⟨b, hb1, hbl⟩ : ∃ b : Addr, (valV kvs (.inl (i : Int))).getD (.ref p0) = .ref b ∧ upd H' p0 (.lst []) b = some (.lst ((mk i).map tx)) := by
        rcases hkp i with ⟨h1, h2⟩ | ⟨h1, l, h2, h3⟩
        · exact ⟨p0, by rw [h2] <;> rfl, by rw [h1, upd_same] <;> rfl⟩
        · exact ⟨l, by rw [h2] <;> rfl, S1 _ _ (sm.lst p6 h3)⟩
      rw [hb1]
      generalize upd H' p0 (.lst []) = H1 at S1 pn1 hbl ⊢
      refine ⟨b, rfl, ⟨_, SqL.of hbl⟩, fun D hD => ?_⟩
      refine lc_list (K := K) (a := b) (xs := (mk i).map tx) (fun j H2 => ∃ qs : List Addr, Same H1 H2 ∧ H2 D = some (.lst (qs.map V.ref)) ∧ Paired (fun l ws => l ≠ D ∧ H2 l = some (.lst (ws.map tx))) qs (((mk i).take j).map fun nm => (BI.mk nm).words)) ⟨[], same_upd hD, upd_same, .nil⟩ (fun j H2 _ h => by obtain ⟨_, h, _⟩ := h; exact SqL.of (h _ _ hbl)) ?_ ?_
      · rintro j x H2 hj ⟨qs, s2, g2, hp2⟩
        obtain ⟨nm, hnm, rfl⟩ : ∃ nm, (mk i)[j]? = some nm ∧ x = tx nm := by
          rw [List.getElem?_map] at hj
          cases e : (mk i)[j]? with
          | none => rw [e] at hj; cases hj
          | some t => rw [e] at hj; exact ⟨t, rfl, (Option.some.inj hj).symm⟩
        have eo : (mk i).take (j + 1) = (mk i).take j ++ [nm] := by rw [List.take_add_one, hnm] <;> rfl
        refine ⟨rfl, _, rfl, by show 2 ≤ sizeLine; decide, fun a ha => ?_⟩
        have S3 := same_upd (o := .lst [.str "at", tx nm]) ha
        have hql : qs.length = j := by
          have h1 : qs.length = (((mk i).take j).map fun nm => (BI.mk nm).words).length := hp2.length
          have h2 : j < (mk i).length := by
            rcases Nat.lt_or_ge j (mk i).length with h | h
            · exact h
            · rw [List.getElem?_eq_none h] at hnm; cases hnm
          rw [List.length_map, List.length_take] at h1
          omega
        have hm2 := hmo.sz i
        have h2 : j < (mk i).length := by
          rcases Nat.lt_or_ge j (mk i).length with h | h
          · exact h
          · rw [List.getElem?_eq_none h] at hnm; cases hnm
        have haD : a ≠ D := (ne_of_none g2 ha).symm
        refine ⟨_, S3 _ _ g2, by rw [List.length_map]; exact small1000 (by omega), qs ++ [a], same_new (s2.trans S3) hD, by rw [upd_same, List.map_append] <;> rfl, ?_⟩
        rw [eo, List.map_append]
        refine paired_snoc (L2.Paired.mapP hp2 fun l ws h => ⟨h.1, by rw [upd_ne h.1]; exact S3 _ _ h.2⟩) ⟨haD, ?_⟩
        rw [upd_ne haD, upd_same]
        show _ = some (HO.lst ([atL, nm].map tx))
        rw [List.map_cons, show tx atL = V.str "at" from congrArg V.str (SX.S_tl _)]
        rfl
      rintro H3 ⟨qs, s3, g3, hp3⟩
      rw [List.length_map, List.take_length] at hp3
      have hqs : qs.length ≤ 2 := by
        have h1 : qs.length = ((mk i).map fun nm => (BI.mk nm).words).length := hp3.length
        rw [List.length_map] at h1
        have := hmo.sz i
        omega
      have pn3 : PenAt c q (n + 40 + i) H3 := by
        obtain ⟨⟨ms, g1⟩, a', d', k', f', g2, z⟩ := pn1
        exact ⟨⟨ms, s3 _ _ g1⟩, a', d', k', f', s3 _ _ g2, z⟩
      have S13 := S1.trans s3
      refine ⟨L', D, _, _, rfl, rfl, S13 _ _ hls, g3, by rw [List.length_map, List.length_map, sizeLine_eq]; omega, fun LL hL2 => ?_⟩
      have S4 := S13.trans (same_upd (o := .lst (ls.map V.ref ++ qs.map V.ref)) hL2)
      have pn4 := pn3.upd (o := .lst (ls.map V.ref ++ qs.map V.ref)) hL2
      have g4 : upd H3 LL (.lst (ls.map V.ref ++ qs.map V.ref)) LL = some (.lst ((ls ++ qs).map V.ref)) := by rw [upd_same, List.map_append]
      have hp4 : Paired (fun l ws => l ≠ LL ∧ upd H3 LL (.lst (ls.map V.ref ++ qs.map V.ref)) l = some (.lst (ws.map tx))) (ls ++ qs) (headL rs cs ++ bs.map BI.words ++ ((mk i).map BI.mk).map BI.words) := by
        have nl : ∀ {l : Addr} {xs : List V}, H3 l = some (.lst xs) → l ≠ LL ∧ upd H3 LL (.lst (ls.map V.ref ++ qs.map V.ref)) l = some (.lst xs) := fun h => ⟨ne_of_none h hL2, by rw [upd_ne (ne_of_none h hL2)]; exact h⟩
        refine paired_app (L2.Paired.mapP hps fun l ws h => nl (S13 _ _ h)) ?_
        rw [List.map_map]
        exact L2.Paired.mapP hp3 fun l ws h => nl h.2
      have hL2n : H' LL = none := by
        cases e : H' LL with
        | none => rfl
        | some o =>
          rw [S13 _ _ e] at hL2
          cases hL2
      generalize upd H3 LL (.lst (ls.map V.ref ++ qs.map V.ref)) = H4 at S4 pn4 g4 hp4 ⊢
      clear hp3 hL2 S13 pn3 s3 g3 hbl S1 pn1 hp0 hD
      -- if number < len(orders)
      have hd4 := S4 _ _ (sm _ _ hdq hd6)
      have hlo4 := S4 _ _ (sm.lst p6 hlo6)
      have fin0 : BodyTo rs cs os.length mk (i + 1) (bs ++ (mk i).map BI.mk ++ ([] : List BI)) := hb.step hmo (Nat.zero_le _) (fun x h => absurd h List.not_mem_nil)
      refine ⟨_, rfl, _, rfl, d, _, rfl, dg_orders hd4, lo, _, rfl, .inl (SqL.of hlo4), _, _, rfl, rfl, _, rfl, ite2 (fun hlt => ?_) (fun _ => ?_)⟩
      · have hlt := of_decide_eq_true hlt
        rw [List.length_map] at hlt
        have hit : i < ts.length := by omega
        obtain ⟨o, ho, hto⟩ := paired_get hpr (List.getElem?_eq_getElem hit)
        have hto4 := S4 _ _ (sm.tup p6 (S06.tup pen hto))
        refine ⟨_, rfl, .inl ⟨rfl, _, SqL.of g4⟩, _, rfl, _, rfl, _, rfl, _, rfl, d, _, rfl, dg_orders hd4, _, rfl, lo, _, _, _, rfl, rfl, SqL.of hlo4, atI_nat (by rw [List.getElem?_map, List.getElem?_eq_getElem hit] <;> rfl), ?_⟩
        refine ⟨c, q, d, m, ts[i], n + 40 + i, 40, rs, cs, os, mk, o, rfl, pn4, by omega, ⟨lr, lc, lo, hd4, S4 _ _ (sm.lst p6 (S06.lst pen hlr)), S4 _ _ (sm.lst p6 (S06.lst pen hlc)), ts, hlo4, L2.Paired.mapP hpr fun t o h => S4 _ _ (sm.tup p6 (S06.tup pen h))⟩, gd.r3, gd.c3, ⟨kvs, S4 _ _ hkv', hkl, fun p => ?_⟩, hmo.sz, fun p hp => ?_, hto4, gd.ok o (List.mem_of_getElem? ho), hmq, hdq, fun H7 l ws s7 p7 hl hws => ?_⟩
        · rcases hkp p with h | ⟨h1, l, h2, h3⟩
          · exact .inl h
          · exact .inr ⟨h1, l, h2, S4 _ _ (sm.lst p6 h3)⟩
        · have hmem : p ∈ os.filterMap labOf := List.mem_filterMap.mpr ⟨o, List.mem_of_getElem? ho, hp⟩
          rcases ord_lab (gd.ok o (List.mem_of_getElem? ho)) with ⟨h1, _⟩ | ⟨p', h1, h2, h3, _⟩
          · rw [hp] at h1
            cases h1
          · rw [hp] at h1
            cases h1
            exact hmo.has p hmem h2 h3
        · have g7 := s7.lst pn4 g4
          refine ⟨LL, _, _, rfl, rfl, g7, ?_, LL, bs ++ (mk i).map BI.mk ++ [.od ws], some (.int (i : Int)), rfl, ?_, ?_, ⟨ls ++ qs ++ [l], ?_, ?_⟩, ?_⟩
          · rw [List.length_map, List.length_append]
            exact small1000 (by omega)
          · exact ((sm.trans (Sm.of S4)).trans s7).new (sm.free (pn.ne_none hL2n) hL2n)
          · exact p7.new pn hL2n
          · rw [upd_same, List.map_append (l₂ := [l])]
            rfl
          · have hlL : l ≠ LL := fun z => by
              obtain ⟨wd, k, as, _, hw, _⟩ := hws
              rw [z, g7, hw] at hl
              have h := Option.some.inj hl
              injection h with h
              cases e : ls ++ qs with
              | nil => rw [e] at h; cases h
              | cons a r => rw [e] at h; cases h
            rw [List.map_append (f := BI.words), List.map_append (f := BI.words), ← List.append_assoc, ← List.append_assoc]
            refine paired_snoc ?_ (by rw [upd_ne hlL]; exact hl)
            exact L2.Paired.mapP hp4 fun l ws h => by rw [upd_ne h.1]; exact s7.lst pn4 h.2
          · refine hb.step hmo (Nat.le_refl _) fun x hx => ⟨ws, List.mem_singleton.mp hx, hws⟩
      · refine ⟨LL, bs ++ (mk i).map BI.mk, some (.int (i : Int)), rfl, sm.trans (Sm.of S4), pn4.mono (by omega), ⟨ls ++ qs, g4, ?_⟩, by rw [List.append_nil] at fin0; exact fin0⟩
        rw [List.map_append, ← List.append_assoc]
        exact L2.Paired.mapP hp4 fun l ws h => h.2
    · rintro σ H' ⟨L', bs, v4, rfl, sm, pn, hl, hb⟩
      rw [en] at pn hb
      exact ⟨_, rfl, go H' L' bs (S06.trans sm) (pn.mono (by omega)) hl (hb.done hmo o8)⟩
end
end Tg

-- part KL
set_option Elab.async false
set_option linter.all false
set_option maxRecDepth 100000
set_option maxHeartbeats 4000000
namespace Tg
open PySem PySem.Spec PyProof.Rows L2 TgM
theorem PenAt.same {c q : Addr} {n : Nat} {H H' : Hp} (h : PenAt c q n H) (s : Same H H') : PenAt c q n H' := by
  obtain ⟨⟨ms, g1⟩, a', d', k', f', g2, z⟩ := h
  exact ⟨⟨ms, s _ _ g1⟩, a', d', k', f', s _ _ g2, z⟩
/-! ### lines and the text -/
structure LineOk (ws : List (List Nat)) : Prop where
  ne : ws ≠ []
  le : ws.length ≤ 5
  w : ∀ a ∈ ws, a.length ≤ 12 ∧ 32 ∉ a ∧ 10 ∉ a
theorem name_w {a : List Nat} (h : NameL a) : a.length ≤ 12 ∧ 32 ∉ a ∧ 10 ∉ a := by
  obtain ⟨_, h2, h3⟩ := h
  refine ⟨h2, fun z => ?_, fun z => ?_⟩
  · exact absurd (h3 _ z) (by decide)
  · exact absurd (h3 _ z) (by decide)
theorem kinds_w : ∀ p ∈ kinds, (p.1.cps.toList.length ≤ 12 ∧ 32 ∉ p.1.cps.toList ∧ 10 ∉ p.1.cps.toList) ∧ p.2.cps.toList.length ≤ 3 := by decide +kernel
theorem paired_len {α β : Type} {R : α → β → Prop} {xs : List α} {ys : List β} (h : Paired R xs ys) : xs.length = ys.length := h.length
theorem paired_mem {α β : Type} {R : α → β → Prop} : ∀ {xs : List α} {ys : List β} {y : β}, Paired R xs ys → y ∈ ys → ∃ x, x ∈ xs ∧ R x y
  | _, _, _, .nil, h => absurd h List.not_mem_nil
  | _, _, y, .cons (a := a) (b := b) r t, h => by
    rcases List.mem_cons.mp h with rfl | h
    · exact ⟨a, List.mem_cons_self, r⟩
    · obtain ⟨x, h1, h2⟩ := paired_mem t h
      exact ⟨x, List.mem_cons_of_mem _ h1, h2⟩
theorem WordsOk.line {rs cs : List (List Nat)} {M : List Nat → Prop} {ws : List (List Nat)} (h : WordsOk rs cs M ws) (hr : ∀ l ∈ rs, NameL l) (hc : ∀ l ∈ cs, NameL l) (hm : ∀ l, M l → NameL l) : LineOk ws := by
  obtain ⟨wd, k, as, h1, rfl, h3⟩ := h
  obtain ⟨g1, g2⟩ := kinds_w _ h1
  refine ⟨List.cons_ne_nil _ _, ?_, fun a ha => ?_⟩
  · have := h3.length
    rw [List.length_cons]
    show as.length + 1 ≤ 5
    have g2' : k.cps.toList.length ≤ 3 := g2
    omega
  · rcases List.mem_cons.mp ha with rfl | ha
    · exact g1
    · obtain ⟨s, _, h⟩ := paired_mem h3 ha
      rcases h with ⟨_, h⟩ | ⟨_, h⟩ | ⟨_, h⟩
      · exact name_w (hr a h)
      · exact name_w (hc a h)
      · exact name_w (hm a h)
theorem lines_ok {rs cs : List (List Nat)} {os : List (Str × List Int)} {bs : List BI} (gd : Good rs cs os) (hb : BodyOk rs cs bs) : ∀ ws ∈ headL rs cs ++ bs.map BI.words, LineOk ws := by
  intro ws hw
  rcases List.mem_append.mp hw with hw | hw
  · unfold headL at hw
    rcases List.mem_cons.mp hw with rfl | hw
    · refine ⟨List.cons_ne_nil _ _, by have := gd.r3; rw [List.length_cons]; omega, fun a ha => ?_⟩
      rcases List.mem_cons.mp ha with rfl | ha
      · decide +kernel
      · exact name_w (gd.rn a ha)
    · rw [List.mem_singleton.mp hw]
      refine ⟨List.cons_ne_nil _ _, by have := gd.c3; rw [List.length_cons]; omega, fun a ha => ?_⟩
      rcases List.mem_cons.mp ha with rfl | ha
      · decide +kernel
      · exact name_w (gd.cn a ha)
  · obtain ⟨b, hbm, rfl⟩ := List.mem_map.mp hw
    cases b with
    | mk nm =>
      refine ⟨List.cons_ne_nil _ _, by show 2 ≤ 5; decide, fun a ha => ?_⟩
      rcases List.mem_cons.mp ha with rfl | ha
      · decide +kernel
      · rw [List.mem_singleton.mp ha]
        exact name_w (hb.nm nm (List.mem_filterMap.mpr ⟨_, hbm, rfl⟩))
    | od ws => exact (hb.od ws hbm).line gd.rn gd.cn hb.nm
def lineL (ws : List (List Nat)) : List Nat := TL.joinL [32] ws
def textL (wss : List (List (List Nat))) : List Nat := TL.joinL [] (wss.map fun ws => lineL ws ++ [10])
theorem textL_join : ∀ ls : List (List Nat), TL.joinL [] (ls.map fun l => l ++ [10]) = TL.joinL [10] (ls ++ [[]])
  | [] => rfl
  | [l] => rfl
  | l :: m :: r => by
    show (l ++ [10]) ++ ([] ++ TL.joinL [] ((m :: r).map fun l => l ++ [10])) = l ++ ([10] ++ TL.joinL [10] ((m :: r) ++ [[]]))
    rw [textL_join (m :: r), List.nil_append, List.append_assoc]
theorem joinL_le (s : List Nat) (b : Nat) : ∀ ls : List (List Nat), (∀ l ∈ ls, l.length ≤ b) → (TL.joinL s ls).length ≤ ls.length * (b + s.length)
  | [], _ => Nat.zero_le _
  | [l], h => by
    have := h l List.mem_cons_self
    show l.length ≤ 1 * (b + s.length)
    omega
  | l :: m :: r, h => by
    have h1 := h l List.mem_cons_self
    have h2 := joinL_le s b (m :: r) fun x hx => h x (List.mem_cons_of_mem _ hx)
    show (l ++ (s ++ TL.joinL s (m :: r))).length ≤ ((m :: r).length + 1) * (b + s.length)
    rw [List.length_append, List.length_append, Nat.add_mul, Nat.one_mul]
    omega
theorem sum_le (b : Nat) : ∀ ls : List Nat, (∀ l ∈ ls, l ≤ b) → ls.sum ≤ ls.length * b
  | [], _ => Nat.zero_le _
  | l :: r, h => by
    have h1 := h l List.mem_cons_self
    have h2 := sum_le b r fun x hx => h x (List.mem_cons_of_mem _ hx)
    rw [List.sum_cons, List.length_cons, Nat.add_mul, Nat.one_mul]
    omega
theorem LineOk.len {ws : List (List Nat)} (h : LineOk ws) : (lineL ws).length ≤ 65 := by
  have h1 := joinL_le [32] 12 ws fun a ha => (h.w a ha).1
  have h2 := h.le
  have h3 : ws.length * (12 + [32].length) ≤ 5 * 13 := Nat.mul_le_mul_right 13 h2
  show (TL.joinL [32] ws).length ≤ 65
  omega
theorem map_S (ws : List (List Nat)) : (ws.map SX.S).map V.str = ws.map tx := List.map_map
def rJn (K : PySem.W.Frag) : V → List V → Hp → VK → Prop := fun x xs H Q => ∃ a p, ∃ ys : List Str, x = .str a ∧ xs = [.ref p] ∧ (SqL K H p (ys.map V.str) ∨ SqT K H p (ys.map V.str)) ∧ (ys.map (·.length)).sum + ys.length * a.length ≤ 16777216 ∧ Q (.str (Txt.join a ys)) H
theorem pe_jn {X : Cx} {o e : Expr} {to te : TE} {K : PySem.W.Frag} {apos pos : Pos} (hK : X.K = K) (ho : PE X o to) (he : PE X e te) (hs : starEach [e] X.env = [(false, eval e X.env)] := by rfl) (hbase : attributeBase o "join" X.env (eval o X.env) = eval o X.env := by rfl) (hline : (apos.endLine == pos.line) = true := by rfl) :
    PE X (.Call (.Attribute o "join" apos) [e] [] pos) (tM1 (rJn K) to te) := by
  subst hK
  exact pe_join ho he hs hbase hline
section
variable {P : Program} {w : World} {K : PySem.W.Frag} {mg : Str → Option Value} {base : Heap}
abbrev nmText : List Str := ["_law_lines", "_law_words"]
def spText : Sp := fun vs H Q _ => ∃ (l : Addr) (wss : List (List (List Nat))), vs = [.ref l] ∧ LinesAt H l wss ∧ (∀ ws ∈ wss, LineOk ws) ∧ wss.length ≤ 60 ∧ ∀ H', Same H H' → Q (tx (textL wss)) H'
theorem scText : FnScope nmText ["_law_lines"] (defScope (top 61)) := ⟨rfl, rfl, rfl, by decide +kernel, rfl, by decide +kernel, by decide +kernel⟩
theorem ok_text (T : Txt K mg w) : Cal P w K mg base 1 "_law_text_of" spText := by
  refine cal_of (N := nmText) (ps := ["_law_lines"]) (T.d 29) scText (fun _ _ _ _ _ _ us hl => match us, hl with | [_], _ => rfl) (fun vs H Q E h => ?_) (fun f0 cdv A outer s H vs Q E hr h => ?_)
  · obtain ⟨l, wss, rfl, _⟩ := h
    rfl
  · obtain ⟨l, wss, rfl, ⟨ls, hl, hp⟩, hok, hsz, go⟩ := h
    have nd := scText.nd
    refine ⟨_, pss_one (ps_ret (pe_join pe_str (pe_lc (own := [("_law_words", 1)]) (g := gName 1) (tt := tYes) rfl nd (pi_list (pv 0)) (blkOk_by (N := nmText) (sc := defScope (top 61)) (by decide +kernel))
            (fun _ _ _ _ _ => pg_name (i := 1) nd rfl (.inl rfl)) (fun _ _ _ _ _ => pts_nil) (fun _ _ _ _ _ => pe_op op_add_str (pe_jn (K := K) rfl pe_str (pv 1)) pe_str)))), ?_⟩
    refine ⟨⟨_, rfl⟩, _, rfl, l, rfl, ⟨_, SqL.of hl⟩, fun D hD => ?_⟩
    have hlen : ls.length = wss.length := hp.length
    refine lc_list (K := K) (a := l) (xs := ls.map V.ref) (fun i H' => Same H H' ∧ H' D = some (.lst (((wss.take i).map fun ws => lineL ws ++ [10]).map tx))) ⟨same_upd hD, upd_same⟩ (fun i H' _ h => same_sql h.1 (SqL.of hl)) ?_ ?_
    · rintro i x H' hi ⟨s1, g1⟩
      obtain ⟨t, ht, rfl⟩ : ∃ t, ls[i]? = some t ∧ x = V.ref t := by
        rw [List.getElem?_map] at hi
        cases e : ls[i]? with
        | none => rw [e] at hi; cases hi
        | some t => rw [e] at hi; exact ⟨t, rfl, (Option.some.inj hi).symm⟩
      obtain ⟨ws, hw, htw⟩ := paired_get hp ht
      have hlo := hok ws (List.mem_of_getElem? hw)
      have hll := hlo.len
      have eo : wss.take (i + 1) = wss.take i ++ [ws] := by rw [List.take_add_one, hw] <;> rfl
      have esum : ((ws.map SX.S).map (·.length)).sum ≤ 5 * 12 := by
        refine Nat.le_trans (sum_le 12 _ fun x hx => ?_) ?_
        · obtain ⟨y, hy, rfl⟩ := List.mem_map.mp hx
          obtain ⟨z, hz, rfl⟩ := List.mem_map.mp hy
          rw [SX.S_len]
          exact (hlo.w z hz).1
        · rw [List.length_map, List.length_map]
          exact Nat.mul_le_mul_right 12 hlo.le
      refine ⟨rfl, ⟨_, rfl⟩, _, rfl, " ", t, ws.map SX.S, rfl, rfl, .inl (by rw [map_S]; exact SqL.of (s1 _ _ htw)), ?_, _, _, rfl, rfl, ?_, _, g1, ?_, same_new s1 hD, ?_⟩
      · rw [List.length_map]
        have h5 := hlo.le
        show _ + ws.length * 1 ≤ 16777216
        omega
      · rw [show (" " : Str) = SX.S [32] from rfl, SX.join_S, SX.S_len, sizeLine_eq]
        show (lineL ws).length + 1 ≤ 16777216
        omega
      · rw [List.length_map, List.length_map, List.length_take]
        exact small1000 (by omega)
      · rw [eo, List.map_append, List.map_append, upd_same, show (" " : Str) = SX.S [32] from rfl, SX.join_S, show ("\n" : Str) = SX.S [10] from rfl, SX.S_cat]
        rfl
    rintro H1 ⟨s1, g1⟩
    rw [List.length_map, hlen, List.take_length] at g1
    refine ⟨"", D, (wss.map fun ws => lineL ws ++ [10]).map SX.S, rfl, rfl, .inl (by rw [map_S]; exact SqL.of g1), ?_, ?_⟩
    · refine Nat.le_trans (Nat.add_le_add (sum_le 66 _ fun x hx => ?_) (Nat.le_refl _)) ?_
      · obtain ⟨y, hy, rfl⟩ := List.mem_map.mp hx
        obtain ⟨z, hz, rfl⟩ := List.mem_map.mp hy
        obtain ⟨ws, hw, rfl⟩ := List.mem_map.mp hz
        have := (hok ws hw).len
        rw [SX.S_len, List.length_append]
        show (lineL ws).length + 1 ≤ 66
        omega
      · rw [List.length_map, List.length_map, List.length_map]
        have h1 : wss.length * 66 ≤ 60 * 66 := Nat.mul_le_mul_right 66 hsz
        show wss.length * 66 + wss.length * 0 ≤ 16777216
        omega
    · rw [show ("" : Str) = SX.S [] from rfl, SX.join_S]
      exact go _ s1
end
end Tg

-- part KEn
set_option Elab.async false
set_option linter.all false
set_option maxRecDepth 100000
set_option maxHeartbeats 4000000
/-! enumerate(x) of a tuple and of a text, by values -/
namespace Tg
open PySem PySem.Spec PyProof.Rows L2
theorem enumB_new {v : Value} {o : Obj} {Hh : Heap → Prop} (B : Begins v o Hh) : Meets (Builtin.«enumerate.__new__» ⟨[.type "enumerate", v], []⟩) (fun _ R s => Hh s.heap ∧
    R (.ok (.ret (.ref (s.heap.push o).objs.size))) { s with heap := (s.heap.push o).push { cls := .type "enumerate", data := .fields #[.none, .bool false, .ref s.heap.objs.size, rawInt 0, .none, .none] } }) := .of_wp fun prog w A R s h => by
  obtain ⟨h0, gg, dd, tk, os⟩ := s
  obtain ⟨h1, h⟩ := h
  have hsub := sub_enumerate
  have go : ∀ {A' : Around} {E : Value → Shared → Prop} {Q : Value → Shared → Prop}, Q (.ref h0.objs.size) ⟨h0.push o, gg, dd, tk, os⟩ → wpAny (model prog w) A' (pyIter v) Q E ⟨h0, gg, dd, tk, os⟩ := fun q => B.iter prog w _ _ ⟨h0, gg, dd, tk, os⟩ _ h1 q
  wp_walk using go
  refine wpAny_stack_any fun st => wpAny_pure ?_
  split
  · rename_i c _ _ _ _ _
    cases (c == Value.type "enumerate") <;> (wp_walk using go; exact ⟨_, rfl, h⟩)
  · wp_walk using go
    exact ⟨_, rfl, h⟩
section
variable {prog : Program} {w : World} {A : Around} {E : Value → Shared → Prop} {s : Shared}
theorem enumB_call {v : Value} {o : Obj} {Hh : Heap → Prop} {Q : Value → Shared → Prop} (B : Begins v o Hh) (h1 : Hh s.heap)
    (h : ∀ h', IsEnum h' (s.heap.objs.size + 1) s.heap.objs.size 0 .none → h'.get? s.heap.objs.size = some o → (∀ b o, s.heap.get? b = some o → h'.get? b = some o) → Q (.ref (s.heap.objs.size + 1)) { s with heap := h' }) :
    wpAny (model prog w) A (call (.type "enumerate") [v]) Q E s := by
  refine callType_new F.called_enumerate (by decide) (F.typeCall_enumerate_1 _) (F.newCall_enumerate_1 _) (fun obj => F.args_object_init_2 obj _) F.entry_enumerate_new (enumB_new B) ⟨h1, ?_⟩
  have e1 : (s.heap.push o).objs.size = s.heap.objs.size + 1 := Heap.size_push ..
  rw [e1]
  have e2 : IsEnum ((s.heap.push o).push { cls := .type "enumerate", data := .fields #[.none, .bool false, .ref s.heap.objs.size, rawInt 0, .none, .none] }) (s.heap.objs.size + 1) s.heap.objs.size 0 .none := by
    have z := Heap.get?_push_size (s.heap.push o) (o := { cls := .type "enumerate", data := .fields #[.none, .bool false, .ref s.heap.objs.size, rawInt 0, .none, .none] }) rfl
    rw [e1] at z
    exact z
  exact ⟨⟨_, e2, rfl⟩, h _ e2 (Heap.get?_push_of_some _ (Heap.get?_push_size _ B.free)) fun b o x => Heap.get?_push_of_some _ (Heap.get?_push_of_some _ x)⟩
end
/-- what one turn gives: a new pair -/
theorem enum_turn {X : Cx} {pins : List (Addr × Obj)} {σ : L2.St} {H : Hp} {s : Shared} {E : Value → Shared → Prop} {elts : List Expr} {kk i n : Nat} {tpos : Pos} {e it : Addr} {fp : List Addr} {Pd : Nat → Value → Prop} {St : Nat → Heap → Prop} {old : Value} {x : V} {J : It} {tn : Nat → Heap → Prop}
    (I : Inv X pins σ H s) (D : Draws X.prog X.w X.A.in1 it fp n Pd St) (he : IsEnum s.heap e it i old) (hst : St i s.heap) (hlt : i < n) (hne : e ≠ it) (hef : e ∉ fp) (hf : ∀ b ∈ [e, it], FpOk X pins H b)
    (hx : ∀ u, Pd i u → RelV x u) (hJ : ∀ T, H T = none → J.yld i H (.ref T) (upd H T (.tup [.int (i : Nat), x]))) (htn : ∀ h', (∃ u, IsEnum h' e it ((i + 1 : Nat) : Int) u) → St (i + 1) h' → tn (i + 1) h') :
    wpAny (model X.prog X.w) X.A (pyNext (.ref e)) (fun r s1 => ∃ u, r = some u ∧
      wpAny (model X.prog X.w) X.A (letOwnedTupleGo (.Tuple elts kk tpos) (.ref e) u) (fun _ s2 => ∃ y H', Inv X pins σ H' s2 ∧ RelV y u ∧ J.yld i H y H' ∧ tn (i + 1) s2.heap ∧ ∀ b ∈ [e, it], H' b = none) E s1) E s := by
  have e1 : e < s.heap.objs.size := Heap.lt_size he
  have e2 : it < s.heap.objs.size := by
    obtain ⟨_, q⟩ := D.live _ _ hst
    exact Heap.lt_size q
  refine wpAny_pyNext_enum_itemC D he hst hlt hne hef fun u h' tk hP ho hst' hT _ hk => ⟨_, rfl, wpAny_letOwnedTupleGo_enum (s := { s with heap := h', toks := tk + 1 }) ho fun h2 he2 sb => ?_⟩
  have hT2 : h2.get? s.heap.objs.size = some { cls := .type "tuple", data := .seq #[.int i tk, u] } := (sb.2 _ (Nat.ne_of_gt e1)).trans hT
  have nw : ObjOk X.prog X.w (upd H s.heap.objs.size (.tup [.int (i : Nat), x])) h2 s.heap.objs.size (.tup [.int (i : Nat), x]) := ⟨by show 2 ≤ sizeLine; decide, [.int i tk, u], .cons ⟨_, rfl⟩ (.cons (hx u hP) .nil), ⟨_, hT2, rfl, _, rfl⟩⟩
  have I2 : Inv X pins σ (upd H s.heap.objs.size (.tup [.int (i : Nat), x])) { s with heap := h2, toks := tk + 1 } := I.turnedNew (ch := [e, it]) (fun b ob hb q => by
    have n1 : b ≠ e := fun z => hb (by simp [z])
    have n2 : b ≠ it := fun z => hb (by simp [z])
    exact (sb.2 b n1).trans (hk b ob n1 n2 q)) hf (Nat.le_refl _) nw
  refine ⟨.ref s.heap.objs.size, _, I2, rfl, hJ _ (I.hok.fresh (Nat.le_refl _)), htn _ ⟨u, ?_⟩ (D.frame _ _ _ hst' fun b hb o q => (sb.2 b fun z => hef (z ▸ hb)).trans q), fun b hb => ?_⟩
  · rw [show ((i + 1 : Nat) : Int) = (i : Int) + 1 by omega]
    exact he2
  · have hlt2 : b < s.heap.objs.size := by
      rcases List.mem_cons.mp hb with z | hb
      · rw [z]; exact e1
      · rw [List.mem_singleton.mp hb]; exact e2
    rw [upd_ne (Nat.ne_of_lt hlt2)]
    exact (hf b hb).1
theorem enum_end {prog : Program} {w : World} {A : Around} {E : Value → Shared → Prop} {s : Shared} {e it : Addr} {i : Int} {old : Value} {Q : Option Value → Shared → Prop} (hh : A.handled = none) (he : IsEnum s.heap e it i old)
    (hn : ∀ (E2 : Value → Shared → Prop), (∀ h' x, Heap.ExtBut it s.heap h' → (∃ o, h'.get? x = some o ∧ o.cls = .type "StopIteration") → E2 (.ref x) { s with heap := h' }) → wpAny (model prog w) A.in1 (Builtin.SmallTypes.nextOf (.ref it)) (fun _ _ => False) E2 s)
    (hQ : ∀ h', Heap.ExtBut it s.heap h' → Q none { s with heap := h' }) : wpAny (model prog w) A (pyNext (.ref e)) Q E s := by
  have hT : s.TypeIs (.ref e) "enumerate" := ⟨_, he, rfl⟩
  unfold pyNext
  refine wpAny_bind (wpAny_attempt (wpAny_callSpecial?_slot (name := Str.ofString "__next__") hT F.slot_enumerate_next (wpAny_call_entry F.slot_enumerate_next hT F.entry_enumerate_next ?_ (F.args_enumerate_next_1 _))))
  show wpAny _ _ (field (.ref e) 2 >>= _) _ _ _
  refine wpAny_bind (wpAny_field he rfl (x := .ref it) rfl ?_)
  refine wpAny_bind (thn (hn _ fun h' x hx ho => ?_) fun _ _ z => z.elim)
  obtain ⟨o, h1, h2⟩ := ho
  exact wpAny_bind (wpAny_isInstance (T := "StopIteration") (b := true) ⟨o, h1, h2⟩ isSubtype_stop (wpAny_pure (hQ _ hx)))
/-! the tuple at a -/
def IteT (K : PySem.W.Frag) (a : Addr) : It :=
  ⟨fun i H => ∃ (xs : List V) (x : V), SqT K H a xs ∧ xs[i]? = some x, fun i H v H' => ∃ T x, v = .ref T ∧ H T = none ∧ H' = upd H T (.tup [.int (i : Nat), x]) ∧ ∀ xs, SqT K H a xs → xs[i]? = some x, fun i H => ∃ xs : List V, SqT K H a xs ∧ xs.length ≤ i⟩
theorem walk_enumT {K : PySem.W.Frag} {a : Addr} {xs : List V} : Walk (IteT K a) xs.length (fun H => SqT K H a xs) (YPair (fun i => some (.int (i : Nat))) (fun i => xs[i]?)) := by
  refine ⟨fun i H hi q => ⟨xs, xs[i], q, by simp [hi]⟩, fun H q => ⟨xs, q, Nat.le_refl _⟩, fun i H v H' hi q y => ?_⟩
  obtain ⟨T, x, g1, g2, g3, g4⟩ := y
  exact ⟨T, .int (i : Nat), x, g1, g2, g3, rfl, g4 xs q⟩
theorem tup_ne {h : Heap} {t it : Addr} {i : Nat} {items : Array Value} (ht : h.IsTuple t items) (hi : h.IsTupleIter it t i) : t ≠ it := fun z => by
  obtain ⟨o, h1, h2, _⟩ := ht
  obtain ⟨o', h3, h4, _⟩ := hi
  rw [z, h3] at h1
  cases h1
  rw [h2] at h4
  injection h4 with h4
  exact absurd h4 (by decide)
theorem tup_ne2 {h : Heap} {t e it : Addr} {i : Int} {old : Value} {items : Array Value} (ht : h.IsTuple t items) (he : IsEnum h e it i old) : e ≠ t := fun z => by
  obtain ⟨o, h1, h2, _⟩ := ht
  rw [← z, he] at h1
  cases h1
  injection h2 with h2
  exact absurd h2 (by decide)
theorem turn_enumT {P : Program} {w : World} {K : PySem.W.Frag} {elts : List Expr} {kk : Nat} {tpos : Pos} (a e it : Addr) :
    Turn P w K (.Tuple elts kk tpos) (IteT K a) [e, it] e (fun i h => (∃ u, IsEnum h e it ((i : Nat) : Int) u) ∧ h.IsTupleIter it a i ∧ e ≠ it) where
  mem := by simp
  obj := fun i h st b hb => by
    obtain ⟨⟨u, he⟩, ⟨o, ho, hc, hd⟩, _⟩ := st
    rcases List.mem_cons.mp hb with z | hb
    · rw [z]
      exact ⟨_, he, fun v q => nomatch q⟩
    · rw [List.mem_singleton.mp hb]
      exact ⟨o, ho, fun v q => by rw [hd] at q; cases q⟩
  keep := fun i h h' st k => by
    obtain ⟨⟨u, he⟩, hi, hne⟩ := st
    exact ⟨⟨u, k e (by simp) _ he⟩, hi.at fun o q => k it (by simp) o q, hne⟩
  item := by
    intro X hP hw hK hc i pins s σ H E I hf st hg
    subst hP hw hK
    obtain ⟨⟨u, he⟩, hit, hne⟩ := st
    obtain ⟨xs, x, hq, hx⟩ := hg
    obtain ⟨its, rv, p, hz⟩ := I.tuple hq
    have hlt : i < its.toArray.size := by
      rw [List.size_toArray, ← rv.length]
      rcases Nat.lt_or_ge i xs.length with h | h
      · exact h
      · rw [List.getElem?_eq_none h] at hx
        cases hx
    have pt : s.heap.IsTuple a its.toArray := p
    refine enum_turn (J := IteT X.K a) (tn := fun i h => (∃ u, IsEnum h e it ((i : Nat) : Int) u) ∧ h.IsTupleIter it a i ∧ e ≠ it) I (Draws.tuple (A := X.A.in1) (I.ok.hd hc) it a (tup_ne pt hit) its.toArray) he ⟨hit, pt⟩ hlt hne (fun z => ?_) hf (x := x) (fun v hv => ?_) (fun T hT => ⟨T, x, rfl, hT, rfl, fun ys hy => ?_⟩) fun h' h1 h2 => ⟨h1, h2.1, hne⟩
    · rcases List.mem_cons.mp z with z | z
      · exact hne z
      · exact tup_ne2 pt he (List.mem_singleton.mp z)
    · obtain ⟨v', h1, h2⟩ := rv.get hx
      have h3 : its[i]? = some v := by simpa using hv
      rw [h1] at h3
      cases h3
      exact h2
    · rw [I.tuple_inj hy hq]
      exact hx
  done := by
    intro X hP hw hK hc i pins s σ H E I hf st hg
    subst hP hw hK
    obtain ⟨⟨u, he⟩, hit, hne⟩ := st
    obtain ⟨xs, hq, hx⟩ := hg
    obtain ⟨its, rv, p, hz⟩ := I.tuple hq
    have pt : s.heap.IsTuple a its.toArray := p
    obtain ⟨f0, f1, f2, f3, f4, f5⟩ := hf it (by simp)
    have hend : its.toArray[i]? = none := by
      have := rv.length
      simp
      omega
    exact enum_end (I.ok.hd hc) he (fun E2 k => wpAny_nextOf_tuple_end (I.ok.hd hc) hit pt hend k) fun h' eb => ⟨rfl, I.turned (t' := s.toks) (fun b o hb q => eb b o hb q) f0 f1 f3 f4 f5⟩
  self := fun A i s Q E st h => by
    obtain ⟨⟨u, he⟩, _⟩ := st
    exact wpAny_pyIter_enum he h
def iEnumT (K : PySem.W.Frag) (ta : TA) : TI := fun σ H R => ta σ H fun vs H1 => ∃ a xs, vs = [.ref a] ∧ SqT K H1 a xs ∧ R (IteT K a) H1
theorem pi_enumT {X : Cx} {e : Expr} {ta : TA} {p pos tpos : Pos} {elts : List Expr} {kk : Nat} (hg : Gl X "enumerate") (hm : X.mg "enumerate" = none) (ha : PA X [e] ta) (hs : starEach [e] X.env = [(false, eval e X.env)] := by rfl) :
    PI X (.Tuple elts kk tpos) (.Call (.Name "enumerate" p) [e] [] pos) (iEnumT X.K ta) := by
  refine ⟨fun pins s σ H R I h => Call_ (ld_blt I hg hm boot_enumerate (PyProof.Rows.callWith_type1 (thn (ha.run pos pins s σ H _ I h) fun us s1 ⟨vs, H1, I1, r1, q1⟩ => ?_) hs rfl))⟩
  obtain ⟨a, xs, rfl, hq, q⟩ := q1
  obtain ⟨u, rfl, ru⟩ := vals1 r1
  cases ru
  obtain ⟨its, rv, pt, hz⟩ := I1.tuple hq
  refine enumB_call (begins_tuple a its.toArray) pt fun h' he hit hk => wpAny_pyIter_enum he ?_
  have I2 : Inv X pins σ H1 { s1 with heap := h' } := I1.kept (t' := s1.toks) hk
  refine ⟨s1.heap.objs.size + 1, [s1.heap.objs.size + 1, s1.heap.objs.size], _, _, H1, rfl, I2, turn_enumT a (s1.heap.objs.size + 1) s1.heap.objs.size, ⟨⟨.none, he⟩, ⟨_, hit, rfl, rfl⟩, Nat.succ_ne_self _⟩, fun b hb => ?_, q⟩
  have hle : s1.heap.objs.size ≤ b := by
    rcases List.mem_cons.mp hb with z | hb
    · rw [z]; exact Nat.le_add_right _ _
    · rw [List.mem_singleton.mp hb]; exact Nat.le_refl _
  exact I1.fpOk hle (I1.hok.fresh hle)
/-! a text -/
def IteS (z : Str) : It := ⟨fun i _ => i < z.cps.size, fun i H v H' => ∃ T c, v = .ref T ∧ H T = none ∧ H' = upd H T (.tup [.int (i : Nat), .str ⟨#[c]⟩]) ∧ z.cps[i]? = some c, fun i _ => z.cps.size ≤ i⟩
theorem walk_enumS {z : Str} : Walk (IteS z) z.cps.size (fun _ => True) (fun i H v H' => ∃ T c, v = .ref T ∧ H T = none ∧ H' = upd H T (.tup [.int (i : Nat), .str ⟨#[c]⟩]) ∧ z.cps[i]? = some c) :=
  ⟨fun _ _ hi _ => hi, fun _ _ => Nat.le_refl _, fun _ _ _ _ _ _ y => y⟩
theorem turn_enumS {P : Program} {w : World} {K : PySem.W.Frag} {elts : List Expr} {kk : Nat} {tpos : Pos} (z : Str) (t : Tok) (e it : Addr) :
    Turn P w K (.Tuple elts kk tpos) (IteS z) [e, it] e (fun i h => (∃ u, IsEnum h e it ((i : Nat) : Int) u) ∧ h.IsStrIter it (strIterType z) z t i ∧ e ≠ it) where
  mem := by simp
  obj := fun i h st b hb => by
    obtain ⟨⟨u, he⟩, ⟨o, ho, hc, hd⟩, _⟩ := st
    rcases List.mem_cons.mp hb with z | hb
    · rw [z]
      exact ⟨_, he, fun v q => nomatch q⟩
    · rw [List.mem_singleton.mp hb]
      exact ⟨o, ho, fun v q => by rw [hd] at q; cases q⟩
  keep := fun i h h' st k => by
    obtain ⟨⟨u, he⟩, ⟨o, ho, hc⟩, hne⟩ := st
    exact ⟨⟨u, k e (by simp) _ he⟩, ⟨o, k it (by simp) o ho, hc⟩, hne⟩
  item := by
    intro X hP hw hK hc i pins s σ H E I hf st hg
    subst hP hw hK
    obtain ⟨⟨u, he⟩, hit, hne⟩ := st
    have hlt : i < z.cps.size := hg
    refine enum_turn (J := IteS z) (tn := fun i h => (∃ u, IsEnum h e it ((i : Nat) : Int) u) ∧ h.IsStrIter it (strIterType z) z t i ∧ e ≠ it) I (Draws.text (A := X.A.in1) (I.ok.hd hc) it z t) he hit hlt hne (fun q => hne (List.mem_singleton.mp q)) hf (x := .str ⟨#[z.cps[i]]⟩) (fun v hv => ?_)
      (fun T hT => ⟨T, z.cps[i], rfl, hT, rfl, by simp [hlt]⟩) fun h' h1 h2 => ⟨h1, h2, hne⟩
    obtain ⟨c, u', h1, rfl⟩ := hv
    have h3 : z.cps[i]? = some z.cps[i] := by simp [hlt]
    rw [h3] at h1
    cases h1
    exact ⟨u', rfl⟩
  done := by
    intro X hP hw hK hc i pins s σ H E I hf st hg
    subst hP hw hK
    obtain ⟨⟨u, he⟩, hit, hne⟩ := st
    obtain ⟨f0, f1, f2, f3, f4, f5⟩ := hf it (by simp)
    have hend : z.cps[i]? = none := Array.getElem?_eq_none hg
    refine enum_end (I.ok.hd hc) he (fun E2 k => ?_) fun h' eb => ⟨rfl, I.turned (t' := s.toks) (fun b o hb q => eb b o hb q) f0 f1 f3 f4 f5⟩
    cases ha : z.cps.all (· < 128)
    · have e1 : strIterType z = "str_iterator" := by simp [strIterType, ha]
      rw [e1] at hit
      exact wpAny_nextOf_wide_end (I.ok.hd hc) hit hend k
    · have e1 : strIterType z = "str_ascii_iterator" := by simp [strIterType, ha]
      rw [e1] at hit
      exact wpAny_nextOf_ascii_end (I.ok.hd hc) hit hend k
  self := fun A i s Q E st h => by
    obtain ⟨⟨u, he⟩, _⟩ := st
    exact wpAny_pyIter_enum he h
def iEnumS (ta : TA) : TI := fun σ H R => ta σ H fun vs H1 => ∃ z, vs = [.str z] ∧ R (IteS z) H1
theorem pi_enumS {X : Cx} {e : Expr} {ta : TA} {p pos tpos : Pos} {elts : List Expr} {kk : Nat} (hg : Gl X "enumerate") (hm : X.mg "enumerate" = none) (ha : PA X [e] ta) (hs : starEach [e] X.env = [(false, eval e X.env)] := by rfl) :
    PI X (.Tuple elts kk tpos) (.Call (.Name "enumerate" p) [e] [] pos) (iEnumS ta) := by
  refine ⟨fun pins s σ H R I h => Call_ (ld_blt I hg hm boot_enumerate (PyProof.Rows.callWith_type1 (thn (ha.run pos pins s σ H _ I h) fun us s1 ⟨vs, H1, I1, r1, q1⟩ => ?_) hs rfl))⟩
  obtain ⟨z, rfl, q⟩ := q1
  obtain ⟨u, rfl, ru⟩ := vals1 r1
  obtain ⟨t, rfl⟩ := ru
  refine call_enumerate_str fun h' he hit _ hk => wpAny_pyIter_enum he ?_
  have I2 : Inv X pins σ H1 { s1 with heap := h' } := I1.kept (t' := s1.toks) hk
  refine ⟨s1.heap.objs.size + 1, [s1.heap.objs.size + 1, s1.heap.objs.size], _, _, H1, rfl, I2, turn_enumS z t (s1.heap.objs.size + 1) s1.heap.objs.size, ⟨⟨.none, he⟩, hit, Nat.succ_ne_self _⟩, fun b hb => ?_, q⟩
  have hle : s1.heap.objs.size ≤ b := by
    rcases List.mem_cons.mp hb with z | hb
    · rw [z]; exact Nat.le_add_right _ _
    · rw [List.mem_singleton.mp hb]; exact Nat.le_refl _
  exact I1.fpOk hle (I1.hok.fresh hle)
end Tg

-- part KN
set_option Elab.async false
set_option linter.all false
set_option maxRecDepth 100000
set_option maxHeartbeats 4000000
namespace Tg
open PySem PySem.Spec PyProof.Rows L2 TgM
/-! ### the program's own side: words and names -/
theorem small_list : ("abcdefghijklmnopqrstuvwxyz" : Str).cps.toList = List.range' 97 26 := by decide +kernel
theorem signs_list : ("abcdefghijklmnopqrstuvwxyz0123456789" : Str).cps.toList = List.range' 97 26 ++ List.range' 48 10 := by decide +kernel
theorem sml_mem {c : Nat} (h : sml c = true) : decide (c ∈ ("abcdefghijklmnopqrstuvwxyz" : Str).cps.toList) = true := by
  unfold sml at h
  rw [Bool.and_eq_true, decide_eq_true_eq, decide_eq_true_eq] at h
  rw [decide_eq_true_eq, small_list, List.mem_range'_1]
  omega
theorem sgn_mem {c : Nat} (h : sgn c = true) : decide (c ∈ ("abcdefghijklmnopqrstuvwxyz0123456789" : Str).cps.toList) = true := by
  unfold sgn sml at h
  rw [Bool.or_eq_true, Bool.and_eq_true, Bool.and_eq_true, decide_eq_true_eq, decide_eq_true_eq, decide_eq_true_eq, decide_eq_true_eq] at h
  rw [decide_eq_true_eq, signs_list, List.mem_append, List.mem_range'_1, List.mem_range'_1]
  omega
section
variable {P : Program} {w : World} {K : PySem.W.Frag} {mg : Str → Option Value} {base : Heap}
/-! is_name, of a name -/
def spIsName : Sp := fun vs H Q _ => ∃ l : List Nat, vs = [tx l] ∧ NameL l ∧ ∀ H', Same H H' → Q (.bl true) H'
theorem scIsName : FnScope ["value", "sign"] ["value"] (defScope (top 10)) := ⟨rfl, rfl, rfl, by decide +kernel, rfl, by decide +kernel, by decide +kernel⟩
theorem ok_isname (T : Txt K mg w) : Cal P w K mg base 1 "is_name" spIsName := by
  refine cal_of (N := ["value", "sign"]) (ps := ["value"]) (T.d 3) scIsName (fun _ _ _ _ _ _ us hl => match us, hl with | [_], _ => rfl) (fun vs H Q E h => ?_) (fun f0 cdv A outer s H vs Q E hr h => ?_)
  · obtain ⟨l, rfl, _⟩ := h
    rfl
  · obtain ⟨l, rfl, hn, go⟩ := h
    have nd := scIsName.nd
    obtain ⟨tS, hS⟩ := T.small
    obtain ⟨tG, hG⟩ := T.signs
    refine ⟨_, pss_cons (ps_if (PW.pt (pw_or (pt_not (pt_val (pe_callB call_isi (by rfl) (T.free "isinstance") (by decide +kernel) (pa_cons (pv 0) (pa_cons (pe_bltn (v := .ty "str") (by rfl) (T.free "str") (by decide +kernel) rfl) pa_nil)))))
        (pw_or (pt_not (pt_chain op_le op_le pe_int (pe_callB call_len_str (by rfl) (T.free "len") PySem.boot_len (pa_cons (pv 0) pa_nil)) pe_int))
        (pw_or1 (pt_cmpR op_notIn_sign (pe_ix ix_str (pv 0) pe_int (fun _ _ => rfl)) (pe_glob (v := .str "abcdefghijklmnopqrstuvwxyz") rfl hS ⟨_, rfl⟩) (by rfl)))))) (pss_one (ps_ret pe_bl)) pss_nil)
      (pss_one (ps_ret (pe_callB (cr_all rfl) (by rfl) (T.free "all") (by decide +kernel) (pa_cons (pe_lc (own := [("sign", 1)]) (g := gName 1) (tt := tYes) rfl nd (pi_str (pv 0)) (blkOk_by (N := ["value", "sign"]) (sc := defScope (top 10)) (by decide +kernel))
        (fun _ _ _ _ _ => pg_name (i := 1) nd rfl (.inl rfl)) (fun _ _ _ _ _ => pts_nil) (fun _ _ _ _ _ => pe_cmpR op_in_sign (pv 1) (pe_glob (v := .str "abcdefghijklmnopqrstuvwxyz0123456789") rfl hG ⟨_, rfl⟩) (by rfl))) pa_nil)))), ?_⟩
    obtain ⟨⟨c, r, hcr, hc⟩, hl, hsg⟩ := hn
    have hl1 : 1 ≤ l.length := by rw [hcr, List.length_cons]; omega
    refine ⟨_, rfl, _, _, .type "str", .type "str", true, rfl, .ty "str", .base (.str _), kit_ty (by decide +kernel), true, rfl, iteF ?_⟩
    refine ⟨_, rfl, _, rfl, by rw [SX.S_len, sizeLine_eq]; omega, _, _, rfl, rfl, _, rfl, iteY (decide_eq_true (by rw [SX.S_len]; omega)) ⟨_, _, rfl, rfl, _, rfl, ?_⟩⟩
    rw [decide_eq_true (show ((SX.S l).length : Int) ≤ 12 by rw [SX.S_len]; omega)]
    refine iteF ⟨_, rfl, _, _, c, rfl, rfl, by rw [SX.S_len, sizeLine_eq]; omega, atI_nat (j := 0) (by rw [hcr] <;> rfl), c, _, rfl, rfl, _, rfl, ?_⟩
    rw [sml_mem hc]
    refine iteF ⟨_, rfl, _, rfl, fun D hD => ?_⟩
    refine lc_it (walk_str (z := SX.S l)) (fun i H' => Same H H' ∧ H' D = some (.lst ((List.replicate i true).map V.bl))) ⟨same_upd hD, upd_same⟩ (fun _ _ _ _ => True.intro) ?_ ?_
    · rintro i x H1 H' hi ⟨s1, g1⟩ ⟨rfl, c', hc', rfl⟩
      have hmem : c' ∈ l := by
        have h2 : l[i]? = some c' := by simpa using hc'
        exact List.mem_of_getElem? h2
      have hil : i < l.length := by
        have e : (SX.S l).cps.size = l.length := by simp
        omega
      refine ⟨rfl, _, rfl, c', _, rfl, rfl, _, g1, ?_, same_new s1 hD, ?_⟩
      · rw [List.length_map, List.length_replicate]
        exact small1000 (by omega)
      · rw [upd_same, sgn_mem (hsg c' hmem), List.replicate_succ', List.map_append]
        rfl
    rintro H1 ⟨s1, g1⟩
    refine ⟨D, _, rfl, SqL.of g1, ?_⟩
    have e : (List.replicate (SX.S l).cps.size true).all id = true := by
      rw [List.all_replicate]
      split <;> rfl
    rw [e]
    exact go _ s1
/-! need_text, word_at, no_more -/
def spNeed : Sp := fun vs H Q _ => ∃ z, vs = [.str z] ∧ Q .non H
theorem scNeed : FnScope ["value"] ["value"] (defScope (top 15)) := ⟨rfl, rfl, rfl, by decide +kernel, rfl, by decide +kernel, by decide +kernel⟩
theorem ok_need (T : Txt K mg w) : Cal P w K mg base 1 "need_text" spNeed := by
  refine cal_of (N := ["value"]) (ps := ["value"]) (T.d 4) scNeed (fun _ _ _ _ _ _ us hl => match us, hl with | [_], _ => rfl) (fun vs H Q E h => ?_) (fun f0 cdv A outer s H vs Q E hr h => ?_)
  · obtain ⟨z, rfl, _⟩ := h
    rfl
  · obtain ⟨z, rfl, go⟩ := h
    refine ⟨_, pss_one (ps_if (pt_not (pt_val (pe_callB call_isi (by rfl) (T.free "isinstance") (by decide +kernel) (pa_cons (pv 0) (pa_cons (pe_bltn (v := .ty "str") (by rfl) (T.free "str") (by decide +kernel) rfl) pa_nil))))) pss_never pss_nil), ?_⟩
    exact ⟨_, rfl, _, _, .type "str", .type "str", true, rfl, .ty "str", .base (.str _), kit_ty (by decide +kernel), true, rfl, iteF go⟩
def spWordAt (K : PySem.W.Frag) : Sp := fun vs H Q _ => ∃ (a : Addr) (xs : List V) (i n : Int) (v : V), vs = [.ref a, .int i, .int n] ∧ SqL K H a xs ∧ i < xs.length ∧ atI xs i = some v ∧ Q v H
theorem scWordAt : FnScope ["words", "at", "line"] ["words", "at", "line"] (defScope (top 17)) := ⟨rfl, rfl, rfl, by decide +kernel, rfl, by decide +kernel, by decide +kernel⟩
theorem ok_wordat (T : Txt K mg w) : Cal P w K mg base 1 "word_at" (spWordAt K) := by
  refine cal_of (N := ["words", "at", "line"]) (ps := ["words", "at", "line"]) (T.d 6) scWordAt (fun _ _ _ _ _ _ us hl => match us, hl with | [_, _, _], _ => rfl) (fun vs H Q E h => ?_) (fun f0 cdv A outer s H vs Q E hr h => ?_)
  · obtain ⟨a, xs, i, n, v, rfl, _⟩ := h
    rfl
  · obtain ⟨a, xs, i, n, v, rfl, ha, hi, hv, go⟩ := h
    refine ⟨_, pss_cons (ps_if (pt_cmpR op_ge (pv 1) (pe_callB call_len_seq (by rfl) (T.free "len") PySem.boot_len (pa_cons (pv 0) pa_nil)) (nomark _)) pss_never pss_nil) (pss_one (ps_ret (pe_ix ix_list (pv 0) (pv 1) (fun _ _ => rfl)))), ?_⟩
    exact ⟨_, rfl, _, rfl, a, _, rfl, .inl ha, _, _, rfl, rfl, _, rfl, iteN (decide_eq_false (by omega)) ⟨_, rfl, _, rfl, a, _, _, _, rfl, rfl, ha, hv, go⟩⟩
def spNoMore (K : PySem.W.Frag) : Sp := fun vs H Q _ => ∃ (a : Addr) (xs : List V) (i n : Int), vs = [.ref a, .int i, .int n] ∧ SqL K H a xs ∧ (xs.length : Int) ≤ i ∧ Q .non H
theorem scNoMore : FnScope ["words", "many", "line"] ["words", "many", "line"] (defScope (top 18)) := ⟨rfl, rfl, rfl, by decide +kernel, rfl, by decide +kernel, by decide +kernel⟩
theorem ok_nomore (T : Txt K mg w) : Cal P w K mg base 1 "no_more" (spNoMore K) := by
  refine cal_of (N := ["words", "many", "line"]) (ps := ["words", "many", "line"]) (T.d 7) scNoMore (fun _ _ _ _ _ _ us hl => match us, hl with | [_, _, _], _ => rfl) (fun vs H Q E h => ?_) (fun f0 cdv A outer s H vs Q E hr h => ?_)
  · obtain ⟨a, xs, i, n, rfl, _⟩ := h
    rfl
  · obtain ⟨a, xs, i, n, rfl, ha, hi, go⟩ := h
    refine ⟨_, pss_one (ps_if (pt_cmpR op_gt (pe_callB call_len_seq (by rfl) (T.free "len") PySem.boot_len (pa_cons (pv 0) pa_nil)) (pv 1) (nomark _)) pss_never pss_nil), ?_⟩
    exact ⟨_, rfl, a, _, rfl, .inl ha, _, rfl, _, _, rfl, rfl, _, rfl, iteN (decide_eq_false (by omega)) go⟩
/-! text_lines -/
def spTextLines : Sp := fun vs H Q _ => ∃ ls : List (List Nat), vs = [tx (TL.joinL [10] (ls ++ [[]]))] ∧ (∀ l ∈ ls, 10 ∉ l) ∧ (TL.joinL [10] (ls ++ [[]])).length ≤ 10000 ∧ ∀ (H' : Hp) (a : Addr), Same H H' → H' a = some (.lst (ls.map tx)) → Q (.ref a) H'
theorem scTextLines : FnScope ["text", "lines"] ["text"] (defScope (top 16)) := ⟨rfl, rfl, rfl, by decide +kernel, rfl, by decide +kernel, by decide +kernel⟩
theorem ok_textlines (T : Txt K mg w) : Cal P w K mg base 1 "text_lines" spTextLines := by
  refine cal_of (N := ["text", "lines"]) (ps := ["text"]) (T.d 5) scTextLines (fun _ _ _ _ _ _ us hl => match us, hl with | [_], _ => rfl) (fun vs H Q E h => ?_) (fun f0 cdv A outer s H vs Q E hr h => ?_)
  · obtain ⟨ls, rfl, _⟩ := h
    rfl
  · obtain ⟨ls, rfl, hno, hsz, go⟩ := h
    have nd := scTextLines.nd
    refine ⟨_, pss_cons (ps_set (i := 1) nd rfl (.inl rfl) (pe_split (pv 0) pe_str)) (pss_one (ps_ret (pe_ifExp (pt_cmpR op_eq (pe_ix ix_list (pv 1) (pe_un un_neg pe_int) (fun _ _ => rfl)) pe_str (nomark _)) (pe_slice sl_list (pv 1) po_none (po_some (pe_un un_neg pe_int))) (pv 1)))), ?_⟩
    refine ⟨_, rfl, ⟨_, rfl⟩, _, _, rfl, rfl, by decide +kernel, by rw [SX.S_len, sizeLine_eq]; omega, ?_⟩
    rw [show ("\n" : Str) = SX.S [10] from rfl, SX.split_S (by simp) (by decide), SX.spl_join (by simp) (fun p hp => by
      rcases List.mem_append.mp hp with hp | hp
      · exact hno p hp
      · rw [List.mem_singleton.mp hp]
        exact List.not_mem_nil)]
    intro a ha
    have S1 := same_upd (o := .lst (((ls ++ [[]]).map SX.S).map V.str)) ha
    have g1 := upd_same (H := H) (a := a) (o := .lst (((ls ++ [[]]).map SX.S).map V.str))
    rw [map_S] at S1 g1 ⊢
    have hlast : atI ((ls ++ [[]]).map tx) (-1) = some (tx []) := by
      rw [List.map_append]
      exact atI_last _ _
    refine ⟨_, rfl, _, rfl, a, _, _, _, rfl, rfl, SqL.of g1, hlast, rfl, _, rfl, iteY (by decide +kernel) ⟨_, rfl, _, rfl, _, rfl, a, _, rfl, SqL.of g1, fun b hb => ?_⟩⟩
    have e : cutV ((ls ++ [[]]).map tx) none (some (-1)) = ls.map tx := by
      unfold cutV
      have h1 : HT.sIx ((ls ++ [[]]).map tx).length ((ls ++ [[]]).map tx).length (some (-1)) = ls.length := by
        show (if (-1 : Int) < 0 then ((-1 : Int) + (((ls ++ [[]]).map tx).length : Nat)).toNat else min (-1 : Int).toNat ((ls ++ [[]]).map tx).length) = _
        rw [if_pos (by decide), List.length_map, List.length_append, List.length_singleton]
        omega
      rw [h1, HT.sIx_none, List.drop_zero, Nat.sub_zero, List.map_append]
      exact List.take_left' (by rw [List.length_map])
    rw [e]
    exact go _ b (S1.trans (same_upd hb)) upd_same
end
end Tg

-- part KFz
set_option Elab.async false
set_option linter.all false
set_option maxRecDepth 100000
set_option maxHeartbeats 4000000
/-! a new tuple whose object is known; its index(..) -/
namespace Tg
open PySem PySem.Spec PyProof.Rows L2
def FzT (H : Hp) (t : Addr) (ys : List V) : Prop := ∃ o : Obj, o.cls = .type "tuple" ∧ o.dict = none ∧ H t = some (.frz o (.tup ys))
theorem FzT.sq {K : PySem.W.Frag} {H : Hp} {t : Addr} {ys : List V} (h : FzT H t ys) : SqT K H t ys := by
  obtain ⟨o, _, _, e⟩ := h
  exact .inl (.inr ⟨o, e⟩)
section
variable {X : Cx}
theorem call_tuple_fz : CallR X (.type "tuple") (fun xs H Q => ∃ p ys, xs = [.ref p] ∧ SqL X.K H p ys ∧ ∀ (l : Addr) (o : Obj), H l = none → o.cls = .type "tuple" → o.dict = none → Q (.ref l) (upd H l (.frz o (.tup ys)))) := by
  intro pins s σ H xs us Q I r h
  obtain ⟨p, ys, rfl, hq, q⟩ := h
  obtain ⟨u, rfl, rx⟩ := vals1 r
  cases rx
  obtain ⟨its, r', pl, hz⟩ := I.list hq
  have hlen := r'.length
  refine call_tuple_list pl.isList (fun h' kp => ?_) (by simp only [List.size_toArray] <;> omega)
  have I1 : Inv X pins σ H { s with heap := h' } := I.kept (t' := s.toks) kp
  have at_ : (h'.push { cls := .type "tuple", data := .seq its.toArray }).get? h'.objs.size = some { cls := .type "tuple", data := .seq its.toArray } := Heap.get?_push_size _ rfl
  have I2 : Inv X pins σ (upd H h'.objs.size (.frz { cls := .type "tuple", data := .seq its.toArray } (.tup ys))) { s with heap := h'.push { cls := .type "tuple", data := .seq its.toArray } } :=
    I1.laid (t' := s.toks) (fun b o e => Heap.get?_push_of_some _ e) (Nat.le_refl _) (show ObjOk X.prog X.w _ _ _ (.frz _ (.tup ys)) from ⟨at_, hz, its, r', IsTup.new _ _⟩)
  exact ⟨.ref h'.objs.size, _, I2, rfl, q _ _ (I1.hok.fresh (Nat.le_refl _)) rfl rfl⟩
/-- t.index(x) of such a tuple -/
def tTupM (r : V → List V → Hp → VK → Prop) (to : TE) (t : TA) : TE := fun σ H Q => to σ H fun x H1 => (∃ a ys, x = .ref a ∧ FzT H1 a ys) ∧ t σ H1 fun xs H2 => r x xs H2 Q
theorem pe_tidx {o e : Expr} {es : List Expr} {to : TE} {t : TA} {apos cpos : Pos} {r : V → List V → Hp → VK → Prop} (hm : MtR X "tuple.index" r) (ho : PE X o to) (ha : PA X (e :: es) t)
    (hbase : attributeBase o "index" X.env (eval o X.env) = eval o X.env := by rfl)
    (hfew : ((backTo cpos (starEach (e :: es) X.env)).all (fun x => !x.1) && (backToKw cpos (keywordEach [] X.env)).all (fun x => x.1.isSome)
      && decide ((e :: es).length + ([] : List Keyword).length + (if ([] : List Keyword).isEmpty then 0 else 1) < 30)) = true := by rfl)
    (hline : (apos.endLine == cpos.line) = true := by rfl) (hs : starEach (e :: es) X.env = (false, eval e X.env) :: starEach es X.env := by rfl) (hplain : (backTo cpos (starEach es X.env)).any (·.1) = false := by rfl) :
    PE X (.Call (.Attribute o "index" apos) (e :: es) [] cpos) (tTupM r to t) := by
  refine ⟨fun pins s σ H Q I h => wpAny_Call_method_late hbase hfew hline rfl (thn (ho.run pins s σ H _ I h) fun v s1 ⟨x, H1, I1, r1, ty, q1⟩ => ?_)⟩
  obtain ⟨a, ys, rfl, ob, hc, hd, hob⟩ := ty
  cases r1
  obtain ⟨hget, _⟩ := (I1.hok a _ hob)
  refine ⟨"tuple", "tuple.index", PySem.F.plainAttrs_tuple, PySem.F.slot_tuple_index, PySem.F.type_tuple_index, ⟨ob, hget, hc⟩, fun b eb => ?_, ?_⟩
  · cases eb
    exact ⟨ob, hget, hd⟩
  have hA := ha.run cpos pins s1 σ H1 _ I1 q1
  rw [hs] at hA ⊢
  refine Calls.callWith_builtin (by show (false || (backTo cpos (starEach es X.env)).any (·.1)) = false; rw [hplain] <;> rfl) (Calls.evalArgs_plain ?_)
  exact thn hA fun us s2 ⟨vs, H2, I2, r2, q2⟩ => hm pins s2 σ H2 (.ref a) vs (.ref a) us Q I2 rfl r2 q2
end
end Tg

-- part KO
set_option Elab.async false
set_option linter.all false
set_option maxRecDepth 100000
set_option maxHeartbeats 4000000
namespace Tg
open PySem PySem.Spec PyProof.Rows L2 TgM
/-! ### names_of_line, told_names, place_of, read_mark, read_order -/
theorem sIx_pos (n d k : Nat) (h : k ≤ n) : HT.sIx n d (some ((k : Nat) : Int)) = k := by
  rw [HT.sIx_nat, Nat.min_eq_left h]
theorem cut_from (x : V) (ys : List V) : cutV (x :: ys) (some 1) none = ys := by
  unfold cutV
  have h1 : HT.sIx (x :: ys).length 0 (some (1 : Int)) = 1 := sIx_pos _ 0 1 (by rw [List.length_cons]; omega)
  rw [h1, HT.sIx_none, List.drop_one, List.tail_cons, List.length_cons, Nat.add_sub_cancel]
  exact List.take_length
theorem cut_upto (x : V) (ys : List V) (i : Nat) (h : i ≤ ys.length) : cutV (x :: ys) (some 1) (some (1 + (i : Int))) = ys.take i := by
  unfold cutV
  have h1 : HT.sIx (x :: ys).length 0 (some (1 : Int)) = 1 := sIx_pos _ 0 1 (by rw [List.length_cons]; omega)
  have h2 : HT.sIx (x :: ys).length (x :: ys).length (some (1 + (i : Int))) = 1 + i := by
    have e : (1 : Int) + (i : Int) = ((1 + i : Nat) : Int) := by omega
    rw [e]
    exact sIx_pos _ _ _ (by rw [List.length_cons]; omega)
  rw [h1, h2, List.drop_one, List.tail_cons, Nat.add_sub_cancel_left]
theorem nodup_take {α : Type} {l : List α} (h : l.Nodup) {i : Nat} {a : α} (hi : l[i]? = some a) : a ∉ l.take i := fun hm => by
  obtain ⟨j, hj⟩ := List.mem_iff_getElem?.mp hm
  have hji : j < i := by
    rcases Nat.lt_or_ge j i with z | z
    · exact z
    · rw [List.getElem?_eq_none (by rw [List.length_take]; omega)] at hj
      cases hj
  rw [List.getElem?_take_of_lt hji] at hj
  have e := (List.getElem?_inj (by
    rcases Nat.lt_or_ge j l.length with z | z
    · exact z
    · rw [List.getElem?_eq_none z] at hj
      cases hj) h).mp (hj.trans hi.symm)
  omega
section
variable {P : Program} {w : World} {K : PySem.W.Frag} {mg : Str → Option Value} {base : Heap}
abbrev nmNol : List Str := ["words", "head", "most", "line", "at"]
def spNol : Sp := fun vs H Q _ => ∃ (a : Addr) (hd : List Nat) (ns : List (List Nat)) (m n : Int), vs = [.ref a, tx hd, .int m, .int n] ∧ H a = some (.lst ((hd :: ns).map tx)) ∧ ns ≠ [] ∧ ns.Nodup ∧ (∀ l ∈ ns, NameL l) ∧ (ns.length : Int) ≤ m ∧ ns.length ≤ 10 ∧
  ∀ (H' : Hp) (t : Addr), Same H H' → FzT H' t (ns.map tx) → Q (.ref t) H'
theorem scNol : FnScope nmNol ["words", "head", "most", "line"] (defScope (top 19)) := ⟨rfl, rfl, rfl, by decide +kernel, rfl, by decide +kernel, by decide +kernel⟩
theorem ok_nol (T : Txt K mg w) : Cal P w K mg base 2 "names_of_line" spNol := by
  refine cal_of (N := nmNol) (ps := ["words", "head", "most", "line"]) (T.d 8) scNol (fun _ _ _ _ _ _ us hl => match us, hl with | [_, _, _, _], _ => rfl) (fun vs H Q E h => ?_) (fun f0 cdv A outer s H vs Q E hr h => ?_)
  · obtain ⟨a, hd, ns, m, n, rfl, _⟩ := h
    rfl
  · obtain ⟨a, hd, ns, m, n, rfl, ha, hne, hnd, hnm, hm, h10, go⟩ := h
    have nd := scNol.nd
    refine ⟨_, pss_cons (ps_if (pt_cmpR op_ne (pe_ix ix_list (pv 0) pe_int (fun _ _ => rfl)) (pv 1) (nomark _)) pss_never pss_nil)
      (pss_cons (ps_expr (pe_c (ok_wordat T) hr (by decide) (pa_cons (pv 0) (pa_cons pe_int (pa_cons (pv 3) pa_nil)))))
      (pss_cons (ps_for PassesOwn.never rfl (pi_range2 rfl (T.free "range") (pa_cons pe_int (pa_cons (pe_callB call_len_seq (by rfl) (T.free "len") PySem.boot_len (pa_cons (pv 0) pa_nil)) pa_nil))) (pg_name (i := 4) nd rfl (.inl rfl))
        (pss_one (ps_if (PW.pt (pw_or (pt_cmpR op_gt (pv 4) (pv 2) (nomark _)) (pw_or (pt_not (pt_val (pe_c (ok_isname T) hr (by decide) (pa_cons (pe_ix ix_list (pv 0) (pv 4) (fun _ _ => rfl)) pa_nil))))
          (pw_or1 (pt_cmpR op_in_seq (pe_ix ix_list (pv 0) (pv 4) (fun _ _ => rfl)) (pe_slice sl_list (pv 0) (po_some pe_int) (po_some (pv 4))) (by rfl)))))) pss_never pss_nil)))
      (pss_one (ps_ret (pe_callTy call_tuple_fz (by rfl) (T.free "tuple") (by decide +kernel) (pa_cons (pe_slice sl_list (pv 0) (po_some pe_int) po_none) pa_nil)))))), ?_⟩
    have hl1 : 1 ≤ ns.length := List.length_pos_iff.mpr hne
    obtain ⟨n1, hn1⟩ : ∃ n1, ns[0]? = some n1 := ⟨ns[0], List.getElem?_eq_getElem (by omega)⟩
    refine ⟨_, rfl, a, _, 0, _, rfl, rfl, SqL.of ha, atI_nat (j := 0) rfl, _, rfl, rfl, _, rfl, iteN (by rw [decide_eq_true rfl] <;> rfl) ?_⟩
    refine ⟨_, rfl, _, rfl, a, _, 1, n, _, rfl, SqL.of ha, by rw [List.length_map, List.length_cons]; omega, atI_nat (j := 1) (v := tx n1) (xs := (hd :: ns).map tx) (by rw [List.map_cons, List.getElem?_cons_succ, List.getElem?_map, hn1] <;> rfl), ?_⟩
    refine ⟨_, rfl, a, _, rfl, .inl (SqL.of ha), 1, _, rfl, ⟨by decide, by decide, by omega, by rw [List.length_map, List.length_cons]; omega⟩, ?_⟩
    have en : (((((hd :: ns).map tx).length : Nat) : Int) - 1).toNat = ns.length := by rw [List.length_map, List.length_cons]; omega
    refine for_range (lo := 1) (n := (((((hd :: ns).map tx).length : Nat) : Int) - 1).toNat) (fun i σ H' => ∃ v4 : Option V, σ = [some (.ref a), some (tx hd), some (.int m), some (.int n), v4] ∧ Same H H') ⟨none, rfl, Same.refl H⟩ ?_ ?_
    · rintro i σ H' hi ⟨v4, rfl, s1⟩
      rw [en] at hi
      have ha1 := s1 _ _ ha
      obtain ⟨nm, hnm1⟩ : ∃ x, ns[i]? = some x := ⟨ns[i], List.getElem?_eq_getElem hi⟩
      have hat : ∀ H2 : Hp, H2 a = some (.lst ((hd :: ns).map tx)) → atI ((hd :: ns).map tx) (1 + (i : Int)) = some (tx nm) := fun H2 _ => by
        have e : (1 : Int) + (i : Int) = ((i + 1 : Nat) : Int) := by omega
        rw [e]
        exact atI_nat (by rw [List.map_cons, List.getElem?_cons_succ, List.getElem?_map, hnm1] <;> rfl)
      refine ⟨_, rfl, _, rfl, _, _, rfl, rfl, _, rfl, iteN (decide_eq_false (by omega)) ?_⟩
      refine ⟨_, rfl, _, rfl, a, _, _, _, rfl, rfl, SqL.of ha1, hat _ ha1, nm, rfl, hnm nm (List.mem_of_getElem? hnm1), fun H2 s2 => ⟨true, rfl, iteF ?_⟩⟩
      have ha2 := s2 _ _ ha1
      refine ⟨_, rfl, _, rfl, a, _, _, _, rfl, rfl, SqL.of ha2, hat _ ha2, _, rfl, _, rfl, _, rfl, _, rfl, a, _, rfl, SqL.of ha2, fun b hb => ?_⟩
      have e : cutV ((hd :: ns).map tx) (some 1) (some (1 + (i : Int))) = (ns.take i).map tx := by
        rw [List.map_cons, cut_upto _ _ _ (by rw [List.length_map]; omega), ← List.map_take]
      have S3 := same_upd (o := .lst (cutV ((hd :: ns).map tx) (some 1) (some (1 + (i : Int))))) hb
      have g3 := upd_same (H := H2) (a := b) (o := .lst (cutV ((hd :: ns).map tx) (some 1) (some (1 + (i : Int)))))
      rw [e] at S3 g3 ⊢
      refine ⟨b, _, rfl, .inl (SqL.of g3), rfl, tx_flat _, _, rfl, ?_⟩
      have hin : inV (tx nm) ((ns.take i).map tx) = false := by
        rw [inV_tx]
        exact decide_eq_false (nodup_take hnd hnm1)
      rw [if_neg Bool.false_ne_true, hin]
      exact iteF ⟨_, rfl, (s1.trans s2).trans S3⟩
    · rintro σ H' ⟨v4, rfl, s1⟩
      have ha1 := s1 _ _ ha
      refine ⟨_, rfl, _, rfl, a, _, rfl, SqL.of ha1, fun b hb => ?_⟩
      have e : cutV ((hd :: ns).map tx) (some 1) none = ns.map tx := cut_from _ _
      have S3 := same_upd (o := .lst (cutV ((hd :: ns).map tx) (some 1) none)) hb
      have g3 := upd_same (H := H') (a := b) (o := .lst (cutV ((hd :: ns).map tx) (some 1) none))
      rw [e] at S3 g3 ⊢
      exact ⟨b, _, rfl, SqL.of g3, fun l o hl h1 h2 => go _ l ((s1.trans S3).trans (same_upd hl)) ⟨o, h1, h2, upd_same⟩⟩
/-! told_names -/
theorem kinds_not_at : ∀ p ∈ kinds, p.1 ≠ ("at" : Str) := by decide +kernel
abbrev nmTold : List Str := ["rows", "found", "many", "words"]
def spTold : Sp := fun vs H Q _ => ∃ (r : Addr) (bs : List BI), vs = [.ref r] ∧ LinesAt H r (bs.map BI.words) ∧ (∀ ws, BI.od ws ∈ bs → ∃ (rs cs : List (List Nat)) (M : List Nat → Prop), WordsOk rs cs M ws) ∧ bs.length ≤ 40 ∧
  ∀ (d : Addr) (kvs : List (Key × V)), H d = none → (∀ a ∈ marksOf bs, ∃ n : Int, valV kvs (.inr (SX.S a)) = some (.int n)) → Q (.ref d) (upd H d (.dK kvs))
theorem scTold : FnScope nmTold ["rows"] (defScope (top 20)) := ⟨rfl, rfl, rfl, by decide +kernel, rfl, by decide +kernel, by decide +kernel⟩
theorem ok_told (T : Txt K mg w) : Cal P w K mg base 1 "told_names" spTold := by
  refine cal_of (N := nmTold) (ps := ["rows"]) (T.d 9) scTold (fun _ _ _ _ _ _ us hl => match us, hl with | [_], _ => rfl) (fun vs H Q E h => ?_) (fun f0 cdv A outer s H vs Q E hr h => ?_)
  · obtain ⟨r, bs, rfl, _⟩ := h
    rfl
  · obtain ⟨r, bs, rfl, ⟨ls, hls, hp⟩, hod, hsz, go⟩ := h
    have nd := scTold.nd
    have hu := hu_of hr
    refine ⟨_, pss_cons (ps_par (i := 1) (j := 2) (by rfl) nd rfl rfl (by decide) rfl rfl (pa_cons pe_dnewK (pa_cons pe_int pa_nil)) (by rfl))
      (pss_cons (ps_for PassesOwn.never rfl (pi_list (pv 0)) (pg_name (i := 3) nd rfl (.inl rfl))
        (pss_one (ps_if (pt_cmpR op_ne (pe_ix ix_list (pv 3) pe_int (fun _ _ => rfl)) pe_str (nomark _))
          (pss_one (ps_aug (i := 2) nd rfl (.inl rfl) pe_int ip_add))
          (pss_one (ps_if (PW.pt (pw_and (pt_cmpR op_gt (pe_callB call_len_seq (by rfl) (T.free "len") PySem.boot_len (pa_cons (pv 3) pa_nil)) pe_int (nomark _)) (pw_and1 (pt_cmp (pc_dnotin hu (pe_ix ix_list (pv 3) pe_int (fun _ _ => rfl)) (pv 1))))))
            (pss_one (ps_dput hu (pv 1) (pe_ix ix_list (pv 3) pe_int (fun _ _ => rfl)) (pv 2) rfl)) pss_nil)))))
      (pss_one (ps_ret (pv 1)))), ?_⟩
    have hlen : ls.length = bs.length := by have h1 : ls.length = (bs.map BI.words).length := hp.length; rw [List.length_map] at h1; exact h1
    refine fun d hd => ⟨_, _, rfl, _, rfl, r, rfl, ⟨_, SqL.of (by rw [upd_ne (ne_of_none hls hd)]; exact hls)⟩, ?_⟩
    have hrd : r ≠ d := ne_of_none hls hd
    refine for_list (K := K) (a := r) (xs := ls.map V.ref) (fun i σ H' => ∃ (kvs : List (Key × V)) (n : Int) (v3 : Option V), σ = [some (.ref r), some (.ref d), some (.int n), v3] ∧ H' = upd H d (.dK kvs) ∧ kvs.length ≤ i ∧ (∀ k v, valV kvs k = some v → ∃ n : Int, v = .int n) ∧ ∀ a ∈ marksOf (bs.take i), ∃ n : Int, valV kvs (.inr (SX.S a)) = some (.int n))
      ⟨[], 0, none, rfl, rfl, Nat.le_refl _, fun k v h => absurd h (by rw [valV_nil]; exact fun z => by cases z), fun a h => absurd h (by rw [List.take_zero]; exact List.not_mem_nil)⟩ (fun i σ H' _ h => ?_) ?_ ?_
    · obtain ⟨kvs, n, v3, _, rfl, _⟩ := h
      exact SqL.of (by rw [upd_ne hrd]; exact hls)
    · rintro i x σ H' hi ⟨kvs, n, v3, rfl, rfl, hkl, hv, hk⟩
      obtain ⟨l, hl, rfl⟩ : ∃ t, ls[i]? = some t ∧ x = V.ref t := by
        rw [List.getElem?_map] at hi
        cases e : ls[i]? with
        | none => rw [e] at hi; cases hi
        | some t => rw [e] at hi; exact ⟨t, rfl, (Option.some.inj hi).symm⟩
      have hil : i < ls.length := by
        rcases Nat.lt_or_ge i ls.length with z | z
        · exact z
        · rw [List.getElem?_eq_none z] at hl; cases hl
      obtain ⟨ws, hws, hlw⟩ := paired_get hp hl
      obtain ⟨b, hb, rfl⟩ : ∃ b, bs[i]? = some b ∧ ws = b.words := by
        rw [List.getElem?_map] at hws
        cases e : bs[i]? with
        | none => rw [e] at hws; cases hws
        | some t => rw [e] at hws; exact ⟨t, rfl, (Option.some.inj hws).symm⟩
      have eo : bs.take (i + 1) = bs.take i ++ [b] := by rw [List.take_add_one, hb] <;> rfl
      have hld : l ≠ d := ne_of_none hlw hd
      have hl' : ∀ o, upd H d o l = some (.lst (b.words.map tx)) := fun o => by rw [upd_ne hld]; exact hlw
      cases b with
      | mk nm =>
        have hm : marksOf (bs.take (i + 1)) = marksOf (bs.take i) ++ [nm] := by rw [eo, marksOf_app] <;> rfl
        have tAt : tx atL = V.str "at" := congrArg V.str (SX.S_tl _)
        refine ⟨_, rfl, l, _, 0, _, rfl, rfl, SqL.of (hl' _), atI_nat (j := 0) rfl, rfl, _, rfl, iteN (by decide +kernel) ?_⟩
        refine ⟨_, rfl, l, _, rfl, .inl (SqL.of (hl' _)), _, _, rfl, rfl, _, rfl, iteY (decide_eq_true (by show (1 : Int) < ((2 : Nat) : Int); decide)) ?_⟩
        refine ⟨_, rfl, l, _, 1, _, rfl, rfl, SqL.of (hl' _), atI_nat (j := 1) rfl, _, rfl, d, _, rfl, DGet.k (k := .inr (SX.S nm)) upd_same, _, rfl, ?_⟩
        cases e : valV kvs (.inr (SX.S nm)) with
        | some v =>
          obtain ⟨n2, rfl⟩ := hv _ _ e
          refine iteN rfl ⟨kvs, n, _, rfl, rfl, by omega, hv, fun a ha => ?_⟩
          rw [hm, List.mem_append] at ha
          rcases ha with ha | ha
          · exact hk a ha
          · rw [List.mem_singleton.mp ha]
            exact ⟨n2, e⟩
        | none =>
          refine iteY rfl ⟨_, rfl, _, rfl, _, rfl, l, _, 1, _, rfl, rfl, SqL.of (hl' _), atI_nat (j := 1) rfl, d, _, rfl, DPut.k (k := .inr (SX.S nm)) upd_same (by rw [sizeLine_eq]; omega), putK kvs (.inr (SX.S nm)) (.int n), n, _, rfl, upd_upd, ?_, fun k v hkv => ?_, fun a ha => ?_⟩
          · have := length_putK kvs (.inr (SX.S nm)) (.int n)
            omega
          · rw [valV_put] at hkv
            split at hkv
            · exact ⟨n, (Option.some.inj hkv).symm⟩
            · exact hv k v hkv
          · rw [valV_put]
            rw [hm, List.mem_append] at ha
            rcases ha with ha | ha
            · by_cases h1 : a = nm
              · rw [h1, if_pos rfl]
                exact ⟨n, rfl⟩
              · rw [if_neg (fun z => h1 (SX.S_inj (Sum.inr.inj z)))]
                exact hk a ha
            · rw [List.mem_singleton.mp ha, if_pos rfl]
              exact ⟨n, rfl⟩
      | od ws =>
        have hm : marksOf (bs.take (i + 1)) = marksOf (bs.take i) := by rw [eo, marksOf_app]; exact List.append_nil _
        obtain ⟨_, _, _, wd, k, as, h1, rfl, _⟩ := hod ws (List.mem_of_getElem? hb)
        have hne : decide (V.str (SX.S wd.cps.toList) = V.str "at") = false := decide_eq_false fun z => kinds_not_at _ h1 (by injection z with z)
        refine ⟨_, rfl, l, _, 0, _, rfl, rfl, SqL.of (hl' _), atI_nat (j := 0) rfl, rfl, _, rfl, ?_⟩
        refine iteY (by rw [hne] <;> rfl) ⟨_, rfl, _, _, rfl, rfl, kvs, n + 1, _, rfl, rfl, by omega, hv, fun a ha => hk a (hm ▸ ha)⟩
    · rintro σ H' ⟨kvs, n, v3, rfl, rfl, hkl, hv, hk⟩
      rw [List.length_map, hlen, List.take_length] at hk
      exact ⟨_, rfl, go d kvs hd hk⟩
end
end Tg

-- part KP
set_option Elab.async false
set_option linter.all false
set_option maxRecDepth 100000
set_option maxHeartbeats 4000000
namespace Tg
open PySem PySem.Spec PyProof.Rows L2 TgM
theorem first_at {α : Type} {a : α} [DecidableEq α] : ∀ {l : List α}, a ∈ l → ∃ j : Nat, l[j]? = some a ∧ ∀ m : Nat, m < j → l[m]? ≠ some a
  | [], h => absurd h List.not_mem_nil
  | b :: r, h => by
    by_cases e : b = a
    · exact ⟨0, by rw [e] <;> rfl, fun m hm => absurd hm (Nat.not_lt_zero m)⟩
    · rcases List.mem_cons.mp h with z | h
      · exact absurd z.symm e
      · obtain ⟨j, h1, h2⟩ := first_at h
        refine ⟨j + 1, by rw [List.getElem?_cons_succ]; exact h1, fun m hm => ?_⟩
        cases m with
        | zero => exact fun z => e (Option.some.inj z)
        | succ m =>
          rw [List.getElem?_cons_succ]
          exact h2 m (by omega)
section
variable {P : Program} {w : World} {K : PySem.W.Frag} {mg : Str → Option Value} {base : Heap}
/-! place_of -/
abbrev nmPlace : List Str := ["word", "names", "line", "column"]
def spPlace : Sp := fun vs H Q _ => ∃ (a : List Nat) (t : Addr) (ns : List (List Nat)) (m n : Int), vs = [tx a, .ref t, .int m, .int n] ∧ FzT H t (ns.map tx) ∧ a ∈ ns ∧ ∀ j : Int, Q (.int j) H
theorem scPlace : FnScope nmPlace nmPlace (defScope (top 21)) := ⟨rfl, rfl, rfl, by decide +kernel, rfl, by decide +kernel, by decide +kernel⟩
theorem ok_place (T : Txt K mg w) : Cal P w K mg base 1 "place_of" spPlace := by
  refine cal_of (N := nmPlace) (ps := nmPlace) (T.d 10) scPlace (fun _ _ _ _ _ _ us hl => match us, hl with | [_, _, _, _], _ => rfl) (fun vs H Q E h => ?_) (fun f0 cdv A outer s H vs Q E hr h => ?_)
  · obtain ⟨a, t, ns, m, n, rfl, _⟩ := h
    rfl
  · obtain ⟨a, t, ns, m, n, rfl, ht, ha, go⟩ := h
    refine ⟨_, pss_cons (ps_if (pt_cmpR op_notIn_seq (pv 0) (pv 1) (by rfl)) pss_never pss_nil) (pss_one (ps_ret (pe_tidx mt_tup_index (pv 1) (pa_cons (pv 0) pa_nil)))), ?_⟩
    refine ⟨_, rfl, _, rfl, t, _, rfl, .inr ht.sq, rfl, tx_flat _, _, rfl, ?_⟩
    rw [if_pos rfl, inV_tx, decide_eq_true ha]
    obtain ⟨j, h1, h2⟩ := first_at ha
    refine iteF ⟨_, rfl, ⟨t, _, rfl, ht⟩, _, rfl, t, ns.map SX.S, SX.S a, j, rfl, rfl, by rw [map_S]; exact ht.sq, by rw [List.getElem?_map, h1] <;> rfl, fun m hm z => h2 m hm ?_, go _⟩
    rw [List.getElem?_map] at z
    cases e : ns[m]? with
    | none => rw [e] at z; cases z
    | some x =>
      rw [e] at z
      rw [SX.S_inj (Option.some.inj z)]
/-! read_mark -/
abbrev nmRMark : List Str := ["words", "line", "marks"]
def spRMark : Sp := fun vs H Q _ => ∃ (a m : Addr) (at_ nm : List Nat) (us : List (List Nat)) (n : Int), vs = [.ref a, .int n, .ref m] ∧ H a = some (.lst [tx at_, tx nm]) ∧ NameL nm ∧ H m = some (.lst (us.map tx)) ∧ nm ∉ us ∧ us.length ≤ 100 ∧
  ∀ H', Same H H' → Q .non (upd H' m (.lst ((us ++ [nm]).map tx)))
theorem scRMark : FnScope nmRMark nmRMark (defScope (top 23)) := ⟨rfl, rfl, rfl, by decide +kernel, rfl, by decide +kernel, by decide +kernel⟩
theorem ok_rmark (T : Txt K mg w) : Cal P w K mg base 2 "read_mark" spRMark := by
  refine cal_of (N := nmRMark) (ps := nmRMark) (T.d 12) scRMark (fun _ _ _ _ _ _ us hl => match us, hl with | [_, _, _], _ => rfl) (fun vs H Q E h => ?_) (fun f0 cdv A outer s H vs Q E hr h => ?_)
  · obtain ⟨a, m, at_, nm, us, n, rfl, _⟩ := h
    rfl
  · obtain ⟨a, m, at_, nm, us, n, rfl, ha, hn, hm, hno, hsz, go⟩ := h
    refine ⟨_, pss_cons (ps_if (PW.pt (pw_or (pt_not (pt_val (pe_c (ok_isname T) hr (by decide) (pa_cons (pe_c (ok_wordat T) hr (by decide) (pa_cons (pv 0) (pa_cons pe_int (pa_cons (pv 1) pa_nil)))) pa_nil))))
        (pw_or1 (pt_cmpR op_in_seq (pe_ix ix_list (pv 0) pe_int (fun _ _ => rfl)) (pv 2) (by rfl))))) pss_never pss_nil)
      (pss_cons (ps_expr (pe_c (ok_nomore T) hr (by decide) (pa_cons (pv 0) (pa_cons pe_int (pa_cons (pv 1) pa_nil)))))
      (pss_one (ps_expr (pe_bm PySem.F.plainAttrs_list PySem.F.slot_list_append PySem.F.type_list_append mt_append (pv 2) (pa_cons (pe_ix ix_list (pv 0) pe_int (fun _ _ => rfl)) pa_nil))))), ?_⟩
    refine ⟨_, rfl, _, rfl, a, _, 1, n, _, rfl, SqL.of ha, by show (1 : Int) < ((2 : Nat) : Int); decide, atI_nat (j := 1) rfl, nm, rfl, hn, fun H1 s1 => ⟨true, rfl, iteF ?_⟩⟩
    have ha1 := s1 _ _ ha
    have hm1 := s1 _ _ hm
    refine ⟨_, rfl, a, _, 1, _, rfl, rfl, SqL.of ha1, atI_nat (j := 1) rfl, _, rfl, m, _, rfl, .inl (SqL.of hm1), rfl, tx_flat _, _, rfl, ?_⟩
    rw [if_neg Bool.false_ne_true, inV_tx, decide_eq_false hno]
    refine iteF ⟨_, rfl, _, rfl, a, _, 2, n, rfl, SqL.of ha1, by show ((2 : Nat) : Int) ≤ 2; decide, ?_⟩
    refine ⟨_, rfl, .inl ⟨rfl, _, SqL.of hm1⟩, _, rfl, a, _, 1, _, rfl, rfl, SqL.of ha1, atI_nat (j := 1) rfl, m, _, _, rfl, rfl, hm1, by rw [List.length_map]; exact small1000 (by omega), ?_⟩
    have e : us.map tx ++ [tx nm] = (us ++ [nm]).map tx := by rw [List.map_append] <;> rfl
    rw [e]
    exact go H1 s1
/-! read_order -/
abbrev nmROrder : List Str := ["words", "line", "registers", "colours", "told", "found", "at", "sign", "word"]
def spROrder : Sp := fun vs H Q _ => ∃ (a tr tc d : Addr) (n : Int) (wd k : Str) (rs cs as : List (List Nat)) (M : List Nat → Prop) (kvs : List (Key × V)), vs = [.ref a, .int n, .ref tr, .ref tc, .ref d] ∧ H a = some (.lst ((wd.cps.toList :: as).map tx)) ∧ (wd, k) ∈ kinds ∧ Paired (SignOk rs cs M) k.cps.toList as ∧
  FzT H tr (rs.map tx) ∧ FzT H tc (cs.map tx) ∧ H d = some (.dK kvs) ∧ (∀ x, M x → NameL x ∧ ∃ n : Int, valV kvs (.inr (SX.S x)) = some (.int n)) ∧ ∀ (H' : Hp) (t : Addr) (xs : List V), Same H H' → H' t = some (.tup xs) → Q (.ref t) H'
theorem scROrder : FnScope nmROrder ["words", "line", "registers", "colours", "told"] (defScope (top 22)) := ⟨rfl, rfl, rfl, by decide +kernel, rfl, by decide +kernel, by decide +kernel⟩
theorem FzT.keep {f : Addr} {H H' : Hp} {t : Addr} {ys : List V} (h : FzT H t ys) (s : Sm f H H') (n : t ≠ f) : FzT H' t ys := by
  obtain ⟨o, a, b, c⟩ := h
  exact ⟨o, a, b, s _ _ n c⟩
theorem ok_rorder (T : Txt K mg w) : Cal P w K mg base 2 "read_order" spROrder := by
  refine cal_of (N := nmROrder) (ps := ["words", "line", "registers", "colours", "told"]) (T.d 11) scROrder (fun _ _ _ _ _ _ us hl => match us, hl with | [_, _, _, _, _], _ => rfl) (fun vs H Q E h => ?_) (fun f0 cdv A outer s H vs Q E hr h => ?_)
  · obtain ⟨a, tr, tc, d, n, wd, k, rs, cs, as, M, kvs, rfl, _⟩ := h
    rfl
  · obtain ⟨a, tr, tc, d, n, wd, k, rs, cs, as, M, kvs, rfl, ha, hwk, hp, htr, htc, hd, hM, go⟩ := h
    have nd := scROrder.nd
    have hu := hu_of hr
    obtain ⟨es, en, KD⟩ := T.kindsD
    obtain ⟨uk, hku, rku⟩ := T.kindsV _ hwk
    refine ⟨_, pss_cons (ps_if (pt_cmpR (op_notIn_kd KD) (pe_ix ix_list (pv 0) pe_int (fun _ _ => rfl)) (pe_glob (v := .ref (He.ga K "KINDS")) rfl T.kindsG rfl) (by rfl)) pss_never pss_nil)
      (pss_cons (ps_set (i := 5) nd rfl (.inl rfl) (pe_lst (pa_cons (pe_ix ix_list (pv 0) pe_int (fun _ _ => rfl)) pa_nil)))
      (pss_cons (ps_for PassesOwn.never rfl (pi_enumS rfl (T.free "enumerate") (pa_cons (pe_ix ix_kdict (pe_glob (v := .ref (He.ga K "KINDS")) rfl T.kindsG rfl) (pe_ix ix_list (pv 0) pe_int (fun _ _ => rfl)) (fun _ _ => rfl)) pa_nil)) (pg_tup (by rfl) (pgs_cons (pg_name (i := 6) nd rfl (.inl rfl)) (pgs_cons (pg_name (i := 7) nd rfl (.inl rfl)) pgs_nil)))
        (pss_cons (ps_set (i := 8) nd rfl (.inl rfl) (pe_c (ok_wordat T) hr (by decide) (pa_cons (pv 0) (pa_cons (pe_op op_add (pv 6) pe_int) (pa_cons (pv 1) pa_nil)))))
        (pss_one (ps_if (pt_cmpR op_eq (pv 7) pe_str (nomark _))
          (pss_cons (ps_if (PW.pt (pw_or (pt_not (pt_val (pe_c (ok_isname T) hr (by decide) (pa_cons (pv 8) pa_nil)))) (pw_or1 (pt_cmp (pc_dnotin hu (pv 8) (pv 4)))))) pss_never pss_nil)
            (pss_one (ps_expr (pe_bm PySem.F.plainAttrs_list PySem.F.slot_list_append PySem.F.type_list_append mt_append (pv 5) (pa_cons (pe_dget hu (pv 4) (pv 8) (fun _ _ => rfl)) pa_nil)))))
          (pss_one (ps_expr (pe_bm PySem.F.plainAttrs_list PySem.F.slot_list_append PySem.F.type_list_append mt_append (pv 5) (pa_cons (pe_c (ok_place T) hr (by decide) (pa_cons (pv 8) (pa_cons (pe_ifExp (pt_cmpR op_eq (pv 7) pe_str (nomark _)) (pv 2) (pv 3)) (pa_cons (pv 1) (pa_cons (pe_op op_add (pv 6) pe_int) pa_nil))))) pa_nil))))))))
      (pss_cons (ps_expr (pe_c (ok_nomore T) hr (by decide) (pa_cons (pv 0) (pa_cons (pe_callB call_len_seq (by rfl) (T.free "len") PySem.boot_len (pa_cons (pv 5) pa_nil)) (pa_cons (pv 1) pa_nil)))))
      (pss_one (ps_ret (pe_callTy call_tuple_of (by rfl) (T.free "tuple") (by decide +kernel) (pa_cons (pv 5) pa_nil))))))), ?_⟩
    have tE : V.str wd = tx wd.cps.toList := congrArg V.str (SX.S_tl wd).symm
    refine ⟨_, rfl, a, _, 0, _, rfl, rfl, SqL.of ha, atI_nat (j := 0) rfl, wd, some uk, rfl, rfl, hku, _, rfl, iteF ?_⟩
    refine ⟨_, rfl, a, _, 0, _, rfl, rfl, SqL.of ha, atI_nat (j := 0) rfl, by show 1 ≤ sizeLine; decide, fun f hf => ?_⟩
    have S0 := same_upd (o := .lst [tx wd.cps.toList]) hf
    have g0 := upd_same (H := H) (a := f) (o := .lst [tx wd.cps.toList])
    have ha1 := S0 _ _ ha
    have hd1 := S0 _ _ hd
    have naf : a ≠ f := ne_of_none ha hf
    have ndf : d ≠ f := ne_of_none hd hf
    have nrf : tr ≠ f := by obtain ⟨o, _, _, e⟩ := htr; exact ne_of_none e hf
    have ncf : tc ≠ f := by obtain ⟨o, _, _, e⟩ := htc; exact ne_of_none e hf
    have htr1 : FzT (upd H f (.lst [tx wd.cps.toList])) tr (rs.map tx) := htr.keep (f := f) (Sm.of S0) nrf
    have htc1 : FzT (upd H f (.lst [tx wd.cps.toList])) tc (cs.map tx) := htc.keep (f := f) (Sm.of S0) ncf
    generalize hH1 : upd H f (.lst [tx wd.cps.toList]) = H1 at S0 g0 ha1 hd1 htr1 htc1 ⊢
    refine ⟨_, rfl, a, _, 0, _, rfl, rfl, SqL.of ha1, atI_nat (j := 0) rfl, _, wd, .str k, rfl, rfl, ⟨es, en, uk, KD.at_, KD.lit, hku, rku⟩, k, rfl, ?_⟩
    have hlen := hp.length
    have hks : k.cps.size = k.cps.toList.length := by simp
    have hk3 : k.cps.toList.length ≤ 3 := (kinds_w _ hwk).2
    refine for_it (walk_enumS (z := k)) (fun i σ H' => ∃ (js : List Int) (v6 v7 v8 : Option V), σ = [some (.ref a), some (.int n), some (.ref tr), some (.ref tc), some (.ref d), some (.ref f), v6, v7, v8] ∧ Sm f H1 H' ∧ H' f = some (.lst (tx wd.cps.toList :: js.map V.int)) ∧ js.length = i)
      ⟨[], none, none, none, rfl, Sm.refl H1, g0, rfl⟩ (fun _ _ _ _ _ => True.intro) ?_ ?_
    · rintro i x σ H' H2 hi ⟨js, v6, v7, v8, rfl, sm, gf, rfl⟩ ⟨T', c, rfl, hT, rfl, hc⟩
      have hck : k.cps.toList[js.length]? = some c := by simpa using hc
      obtain ⟨wo, hwo, hso⟩ := paired_get hp hck
      have S1 := same_upd (o := .tup [.int (js.length : Nat), .str ⟨#[c]⟩]) hT
      have sm2 := sm.trans (Sm.of (q := f) S1)
      have gf2 := S1 _ _ gf
      have gT := upd_same (H := H') (a := T') (o := .tup [.int (js.length : Nat), .str ⟨#[c]⟩])
      generalize upd H' T' (.tup [.int (js.length : Nat), .str ⟨#[c]⟩]) = H2 at S1 sm2 gf2 gT ⊢
      have ha2 := sm2 _ _ naf ha1
      have hat : atI ((wd.cps.toList :: as).map tx) ((js.length : Int) + 1) = some (tx wo) := by
        have e : (js.length : Int) + 1 = ((js.length + 1 : Nat) : Int) := by omega
        rw [e]
        exact atI_nat (by rw [List.map_cons, List.getElem?_cons_succ, List.getElem?_map, hwo] <;> rfl)
      have hil : js.length < as.length := by
        rcases Nat.lt_or_ge js.length as.length with z | z
        · exact z
        · rw [List.getElem?_eq_none z] at hwo; cases hwo
      refine ⟨T', _, rfl, SqT.of gT, rfl, _, _, rfl, _, _, rfl, rfl, ?_⟩
      refine ⟨_, rfl, _, rfl, _, _, rfl, rfl, _, rfl, a, _, _, n, _, rfl, SqL.of ha2, by rw [List.length_map, List.length_cons]; omega, hat, ?_⟩
      refine ⟨_, rfl, rfl, _, rfl, ?_⟩
      have fin : ∀ (j : Int) (H3 : Hp), Sm f H1 H3 → H3 f = some (.lst (tx wd.cps.toList :: js.map V.int)) → ∃ (js' : List Int) (v6 v7 v8 : Option V), [some (V.ref a), some (.int n), some (.ref tr), some (.ref tc), some (.ref d), some (.ref f), some (.int (js.length : Nat)), some (.str ⟨#[c]⟩), some (tx wo)] = [some (.ref a), some (.int n), some (.ref tr), some (.ref tc), some (.ref d), some (.ref f), v6, v7, v8] ∧
          Sm f H1 (upd H3 f (.lst (tx wd.cps.toList :: js.map V.int ++ [.int j]))) ∧ upd H3 f (.lst (tx wd.cps.toList :: js.map V.int ++ [.int j])) f = some (.lst (tx wd.cps.toList :: js'.map V.int)) ∧ js'.length = js.length + 1 := fun j H3 s3 g3 =>
        ⟨js ++ [j], _, _, _, rfl, s3.upd, by rw [upd_same, List.map_append] <;> rfl, by rw [List.length_append] <;> rfl⟩
      rcases hso with ⟨rfl, hmem⟩ | ⟨rfl, hmem⟩ | ⟨rfl, hmem⟩
      · refine iteN (by decide +kernel) ⟨_, rfl, .inl ⟨rfl, _, SqL.of gf2⟩, _, rfl, _, rfl, rfl, _, rfl, iteY (by decide +kernel) ⟨_, rfl, _, rfl, _, rfl, _, _, rfl, rfl, wo, tr, rs, n, _, rfl, htr1.keep sm2 nrf, hmem, fun j => ⟨f, _, _, rfl, rfl, gf2, ?_, fin j _ sm2 gf2⟩⟩⟩
        rw [List.length_cons, List.length_map]
        exact small1000 (by omega)
      · refine iteN (by decide +kernel) ⟨_, rfl, .inl ⟨rfl, _, SqL.of gf2⟩, _, rfl, _, rfl, rfl, _, rfl, iteN (by decide +kernel) ⟨_, rfl, _, rfl, _, rfl, _, _, rfl, rfl, wo, tc, cs, n, _, rfl, htc1.keep sm2 ncf, hmem, fun j => ⟨f, _, _, rfl, rfl, gf2, ?_, fin j _ sm2 gf2⟩⟩⟩
        rw [List.length_cons, List.length_map]
        exact small1000 (by omega)
      · obtain ⟨hnm, num, hnum⟩ := hM wo hmem
        refine iteY (by decide +kernel) ⟨_, rfl, wo, rfl, hnm, fun H3 s3 => ⟨true, rfl, iteF ?_⟩⟩
        have sm3 := sm2.trans (Sm.of (q := f) s3)
        have gf3 := s3 _ _ gf2
        have hd3 := sm3 _ _ ndf hd1
        have hg : DGet H3 d (.str (SX.S wo)) (some (.int num)) := by
          have z := DGet.k (k := .inr (SX.S wo)) hd3
          rw [hnum] at z
          exact z
        refine ⟨_, rfl, _, rfl, d, _, rfl, hg, _, rfl, iteF ⟨_, rfl, .inl ⟨rfl, _, SqL.of gf3⟩, _, rfl, _, rfl, d, _, rfl, hg, f, _, _, rfl, rfl, gf3, ?_, fin num _ sm3 gf3⟩⟩
        rw [List.length_cons, List.length_map]
        exact small1000 (by omega)
    · rintro σ H' ⟨js, v6, v7, v8, rfl, sm, gf, hjs⟩
      have ha2 := sm _ _ naf ha1
      refine ⟨_, rfl, _, rfl, f, _, rfl, .inl (SqL.of gf), _, rfl, a, _, _, n, rfl, SqL.of ha2, ?_, ?_⟩
      · rw [List.length_map, List.length_cons, List.length_cons, List.length_map]
        omega
      · exact ⟨_, rfl, f, _, rfl, .inl ⟨SqL.of gf, fun t ht => go _ t _ (same_new (fun b o e => sm b o (ne_of_none e hf) (S0 b o e)) (by
          cases e : H t with
          | none => rfl
          | some o =>
            rw [sm t o (ne_of_none e hf) (S0 t o e)] at ht
            cases ht)) upd_same⟩⟩
end
end Tg

-- part KQ
set_option Elab.async false
set_option linter.all false
set_option maxRecDepth 100000
set_option maxHeartbeats 4000000
namespace Tg
open PySem PySem.Spec PyProof.Rows L2 TgM
/-! ### data with a bound of depth -/
def Lay (k : Nat) (d : PyData) : Prop := d.canLay0 = true ∧ d.depth ≤ k
theorem lay_all {k : Nat} : ∀ {ds : List PyData}, (∀ d ∈ ds, Lay k d) → PyData.canLayAll0 ds = true ∧ PyData.depthAll ds ≤ k
  | [], _ => ⟨rfl, Nat.zero_le _⟩
  | d :: r, h => by
    obtain ⟨a1, a2⟩ := h d List.mem_cons_self
    obtain ⟨b1, b2⟩ := lay_all fun x hx => h x (List.mem_cons_of_mem _ hx)
    refine ⟨?_, ?_⟩
    · simp only [PyData.canLayAll0, a1, b1, Bool.and_true]
    · simp only [PyData.depthAll]
      omega
theorem Lay.list {k : Nat} {ds : List PyData} (h : ∀ d ∈ ds, Lay k d) : Lay (k + 1) (.list ds) := by
  obtain ⟨a, b⟩ := lay_all h
  exact ⟨by simp only [PyData.canLay0, a], by simp only [PyData.depth]; omega⟩
theorem Lay.tuple {k : Nat} {ds : List PyData} (h : ∀ d ∈ ds, Lay k d) : Lay (k + 1) (.tuple ds) := by
  obtain ⟨a, b⟩ := lay_all h
  exact ⟨by simp only [PyData.canLay0, a], by simp only [PyData.depth]; omega⟩
theorem Lay.int {k : Nat} (i : Int) : Lay k (.int i) := ⟨by simp only [PyData.canLay0], by simp only [PyData.depth]; omega⟩
theorem Lay.none {k : Nat} : Lay k .none := ⟨by simp only [PyData.canLay0], by simp only [PyData.depth]; omega⟩
theorem Lay.str {k : Nat} {x : Str} (h : ∀ c ∈ x.cps.toList, c < 256) : Lay k (.str x) := by
  refine ⟨?_, by simp only [PyData.depth]; omega⟩
  simp only [PyData.canLay0]
  unfold PyData.strOk
  rw [← Array.all_toList, List.all_eq_true]
  exact fun c hc => decide_eq_true (Nat.lt_of_lt_of_le (h c hc) (by decide))
theorem Lay.shaped {k : Nat} {d : PyData} (h : Lay k d) (hk : k ≤ 64) : SeqAt.shaped d = true := by
  unfold SeqAt.shaped
  rw [h.1, Bool.true_and]
  exact decide_eq_true (Nat.le_trans h.2 hk)
theorem join_no {c : Nat} {s : List Nat} (hs : c ∉ s) : ∀ {ls : List (List Nat)}, (∀ l ∈ ls, c ∉ l) → c ∉ TL.joinL s ls
  | [], _ => List.not_mem_nil
  | [l], h => h l List.mem_cons_self
  | l :: m :: r, h => fun hm => by
    have hm : c ∈ l ++ (s ++ TL.joinL s (m :: r)) := hm
    rcases List.mem_append.mp hm with hm | hm
    · exact h l List.mem_cons_self hm
    · rcases List.mem_append.mp hm with hm | hm
      · exact hs hm
      · exact join_no hs (ls := m :: r) (fun x hx => h x (List.mem_cons_of_mem _ hx)) hm
/-! ### Program.__init__ -/
abbrev nmInit : List Str := ["self", "text", "rows", "told", "orders", "marks", "at", "words", "line"]
def wordsPy (wss : List (List (List Nat))) : PyData := .list (wss.map fun ws => .list (ws.map fun a => .str (SX.S a)))
abbrev regL : List Nat := ("registers" : Str).cps.toList
abbrev colL : List Nat := ("colours" : Str).cps.toList
/-- the rows at D: p0, p1, pr -/
structure RowsAt (x D p0 p1 : Addr) (pr : List Addr) (rs cs : List (List Nat)) (bs : List BI) (H : Hp) : Prop where
  d : D ≠ x ∧ H D = some (.lst ((p0 :: p1 :: pr).map V.ref))
  a : p0 ≠ x ∧ H p0 = some (.lst ((regL :: rs).map tx))
  b : p1 ≠ x ∧ H p1 = some (.lst ((colL :: cs).map tx))
  r : Paired (fun b ws => b ≠ x ∧ H b = some (.lst (ws.map tx))) pr (bs.map BI.words)
theorem RowsAt.keep {x D p0 p1 : Addr} {pr : List Addr} {rs cs : List (List Nat)} {bs : List BI} {H H' : Hp} (h : RowsAt x D p0 p1 pr rs cs bs H) (s : Sm x H H') : RowsAt x D p0 p1 pr rs cs bs H' :=
  ⟨⟨h.d.1, s _ _ h.d.1 h.d.2⟩, ⟨h.a.1, s _ _ h.a.1 h.a.2⟩, ⟨h.b.1, s _ _ h.b.1 h.b.2⟩, L2.Paired.mapP h.r fun _ _ z => ⟨z.1, s _ _ z.1 z.2⟩⟩
section
variable {P : Program} {w : World} {K : PySem.W.Frag} {mg : Str → Option Value} {base : Heap}
def spInit (K : PySem.W.Frag) : Sp := fun vs H Q _ => ∃ (x dx : Addr) (rs cs : List (List Nat)) (os : List (Str × List Int)) (bs : List BI), vs = [.ref x, tx (textL (headL rs cs ++ bs.map BI.words))] ∧ H x = some (.ins (cProg K) dx []) ∧ Good rs cs os ∧ BodyOk rs cs bs ∧
  ∀ (H' : Hp) (fs : List (Str × V)) (tr tc : Addr), Sm x H H' → H' x = some (.ins (cProg K) dx fs) → fs.lookup ("registers" : Str) = some (.ref tr) → fs.lookup ("colours" : Str) = some (.ref tc) → FzT H' tr (rs.map tx) → FzT H' tc (cs.map tx) → Q .non H'
theorem scInit : FnScope nmInit ["self", "text"] (defScope sProgInit) := ⟨rfl, rfl, rfl, by decide +kernel, rfl, by decide +kernel, by decide +kernel⟩
theorem dp_words {K : PySem.W.Frag} {H : Hp} : ∀ ws : List (List Nat), DpAll K H (ws.map tx) (ws.map fun a => .str (SX.S a))
  | [] => .nil
  | a :: r => .cons (.str _) (dp_words r)
theorem dp_rows {K : PySem.W.Frag} {H : Hp} : ∀ {ls : List Addr} {wss : List (List (List Nat))}, Paired (fun b ws => H b = some (.lst (ws.map tx))) ls wss → DpAll K H (ls.map V.ref) (wss.map fun ws => .list (ws.map fun a => .str (SX.S a)))
  | _, _, .nil => .nil
  | _, _, .cons h t => .cons (.lst (SqL.of h) (dp_words _)) (dp_rows t)
theorem asc_name {a : List Nat} (h : NameL a) : ∀ c ∈ (SX.S a).cps.toList, c < 256 := fun c hc => by
  have h2 := h.2.2 c (by simpa using hc)
  unfold sgn sml at h2
  rw [Bool.or_eq_true, Bool.and_eq_true, Bool.and_eq_true, decide_eq_true_eq, decide_eq_true_eq, decide_eq_true_eq, decide_eq_true_eq] at h2
  omega
theorem asc_kinds : ∀ p ∈ kinds, ∀ c ∈ p.1.cps.toList, c < 256 := by decide +kernel
theorem asc_ok {rs cs : List (List Nat)} {os : List (Str × List Int)} {bs : List BI} {wss : List (List (List Nat))} (gd : Good rs cs os) (hb : BodyOk rs cs bs) (e : wss = headL rs cs ++ bs.map BI.words) : ∀ ws ∈ wss, ∀ a ∈ ws, ∀ c ∈ (SX.S a).cps.toList, c < 256 := by
  subst e
  intro ws hw a ha
  rcases List.mem_append.mp hw with hw | hw
  · rcases List.mem_cons.mp hw with rfl | hw
    · rcases List.mem_cons.mp ha with rfl | ha
      · decide +kernel
      · exact asc_name (gd.rn a ha)
    · rw [List.mem_singleton.mp hw] at ha
      rcases List.mem_cons.mp ha with rfl | ha
      · decide +kernel
      · exact asc_name (gd.cn a ha)
  · obtain ⟨b, hbm, rfl⟩ := List.mem_map.mp hw
    cases b with
    | mk nm =>
      rcases List.mem_cons.mp ha with rfl | ha
      · decide +kernel
      · rw [List.mem_singleton.mp ha]
        exact asc_name (hb.nm nm (List.mem_filterMap.mpr ⟨_, hbm, rfl⟩))
    | od ws =>
      obtain ⟨wd, k, as, h1, e, h3⟩ := hb.od ws hbm
      have ha : a ∈ ws := ha
      rw [e] at ha
      rcases List.mem_cons.mp ha with rfl | ha
      · exact asc_kinds _ h1
      · obtain ⟨s, _, h⟩ := paired_mem h3 ha
        rcases h with ⟨_, h⟩ | ⟨_, h⟩ | ⟨_, h⟩
        · exact asc_name (gd.rn a h)
        · exact asc_name (gd.cn a h)
        · exact asc_name (hb.nm a h)
theorem ne_of_none' {H : Hp} {a b : Addr} {o : HO} (h : H a = some o) (hb : H b = none) : b ≠ a := (ne_of_none h hb).symm
theorem ok_init (T : Txt K mg w) : ∃ fd, FnOk P w K mg base CX0 3 (He.ma K (cProg K) "__init__") fd ["self", "text"] (spInit K) ∧ Binds K fd ["self", "text"] [] := by
  obtain ⟨fd, F⟩ := T.progI
  refine ⟨fd, F.ok scInit (fun vs H Q E h => ?_) (fun cdv A outer s H vs Q E hr h => ?_), F.bindsN (fun _ _ _ _ _ _ us hl => match us, hl with | [_, _], _ => rfl)⟩
  · obtain ⟨x, dx, rs, cs, os, bs, rfl, _⟩ := h
    rfl
  · obtain ⟨x, dx, rs, cs, os, bs, rfl, hx, gd, hb, go⟩ := h
    have nd := scInit.nd
    have hu := hu_of hr
    have hu64 := hr.units
    suffices h : ∃ t, PSs (cxOf CX0 P w K mg base nmInit "Program.__init__" (defScope sProgInit) (He.ma K (cProg K) "__init__") cdv A outer s H E).nox (defBody sProgInit) t ∧ t { nx := fun _ H' => Q .non H', rt := Q } (start nmInit [.ref x, tx (textL (headL rs cs ++ bs.map BI.words))]) H by
      obtain ⟨t, ht, q⟩ := h
      exact ⟨t, ht.nox, q⟩
    refine ⟨_, pss_cons (ps_expr (pe_c (ok_need T) hr (by decide) (pa_cons (pv 1) pa_nil)))
      (pss_cons (ps_setLc (i := 2) (own := [("line", 8)]) (g := gName 8) (tt := tYes) rfl nd rfl rfl (sw_true rfl rfl rfl (by decide +kernel)) (pi_list (pe_c (ok_textlines T) hr (by decide) (pa_cons (pv 1) pa_nil))) (blkOk_by (N := nmInit) (sc := defScope sProgInit) (by decide +kernel))
          (fun _ _ _ _ _ => pg_name (i := 8) nd rfl (.inl rfl)) (fun _ _ _ _ _ => pts_nil) (fun _ _ _ _ _ => pe_split (pv 8) pe_str))
      (pss_cons (ps_if (pt_cmpR (op_eqD hu64) (pv 2) (pe_lst pa_nil) (nomark _)) pss_never pss_nil)
      (pss_cons (ps_fld (pv 0) (pv 1) rfl)
      (pss_cons (ps_fld (pv 0) (pe_c (ok_nol T) hr (by decide) (pa_cons (pe_ix ix_list (pv 2) pe_int (fun _ _ => rfl)) (pa_cons pe_str (pa_cons pe_int (pa_cons pe_int pa_nil))))) rfl)
      (pss_cons (ps_if (pt_cmpR op_eq (pe_callB call_len_seq (by rfl) (T.free "len") PySem.boot_len (pa_cons (pv 2) pa_nil)) pe_int (nomark _)) pss_never pss_nil)
      (pss_cons (ps_fld (pv 0) (pe_c (ok_nol T) hr (by decide) (pa_cons (pe_ix ix_list (pv 2) pe_int (fun _ _ => rfl)) (pa_cons pe_str (pa_cons pe_int (pa_cons pe_int pa_nil))))) rfl)
      (pss_cons (ps_par3 (i := 3) (j := 4) (l := 5) (by rfl) nd rfl rfl rfl (by decide) (by decide) (by decide) rfl rfl rfl (pa_cons (pe_c (ok_told T) hr (by decide) (pa_cons (pe_slice sl_list (pv 2) (po_some pe_int) po_none) pa_nil)) (pa_cons (pe_lst pa_nil) (pa_cons (pe_lst pa_nil) pa_nil))) (by rfl))
      (pss_cons (ps_for PassesOwn.never rfl (pi_enum rfl (T.free "enumerate") (pa_cons (pe_slice sl_list (pv 2) (po_some pe_int) po_none) pa_nil)) (pg_tup (by rfl) (pgs_cons (pg_name (i := 6) nd rfl (.inl rfl)) (pgs_cons (pg_name (i := 7) nd rfl (.inl rfl)) pgs_nil)))
        (pss_one (ps_if (pt_cmpR op_eq (pe_ix ix_list (pv 7) pe_int (fun _ _ => rfl)) pe_str (nomark _))
          (pss_one (ps_expr (pe_c (ok_rmark T) hr (by decide) (pa_cons (pv 7) (pa_cons (pe_op op_add (pv 6) pe_int) (pa_cons (pv 5) pa_nil))))))
          (pss_one (ps_expr (pe_bm PySem.F.plainAttrs_list PySem.F.slot_list_append PySem.F.type_list_append mt_append (pv 4) (pa_cons (pe_c (ok_rorder T) hr (by decide) (pa_cons (pv 7) (pa_cons (pe_op op_add (pv 6) pe_int) (pa_cons (pe_fld (pv 0) rfl) (pa_cons (pe_fld (pv 0) rfl) (pa_cons (pv 3) pa_nil)))))) pa_nil)))))))
      (pss_one (ps_fld (pv 0) (pe_callTy call_tuple_of (by rfl) (T.free "tuple") (by decide +kernel) (pa_cons (pv 4) pa_nil)) rfl)))))))))), ?_⟩
    obtain ⟨wss, hwss⟩ : ∃ wss, wss = headL rs cs ++ bs.map BI.words := ⟨_, rfl⟩
    have hok := lines_ok gd hb
    have hbl := hb.sz
    have hwl : wss.length = bs.length + 2 := by rw [hwss, List.length_append, List.length_map]; show 2 + _ = _; omega
    rw [← hwss] at hok ⊢
    have etx : textL wss = TL.joinL [10] (wss.map lineL ++ [[]]) := by
      rw [← textL_join, List.map_map]
      rfl
    have hle : (textL wss).length ≤ 10000 := by
      have h1 := joinL_le [] 66 (wss.map fun ws => lineL ws ++ [10]) (fun l hl => by
        obtain ⟨ws, hw, rfl⟩ := List.mem_map.mp hl
        have := (hok ws hw).len
        rw [List.length_append]
        show (lineL ws).length + 1 ≤ 66
        omega)
      rw [List.length_map] at h1
      have h2 : wss.length * (66 + ([] : List Nat).length) ≤ 42 * 66 := Nat.mul_le_mul_right 66 (by omega)
      show (TL.joinL [] (wss.map fun ws => lineL ws ++ [10])).length ≤ 10000
      omega
    have no10 : ∀ l ∈ wss.map lineL, 10 ∉ l := fun l hl => by
      obtain ⟨ws, hw, rfl⟩ := List.mem_map.mp hl
      exact join_no (by decide) fun a ha => ((hok ws hw).w a ha).2.2
    have nA : ∀ f : Str, ([("text" : Str), ("registers" : Str), ("colours" : Str), ("orders" : Str)] : List Str).contains f = true → NoAttr K (cProg K) f := fun f hf => T.progN f (List.contains_iff_mem.mp hf)
    refine ⟨_, rfl, SX.S (textL wss), rfl, ?_⟩
    refine ⟨_, rfl, wss.map lineL, by rw [etx] <;> rfl, no10, by rw [← etx]; exact hle, fun H1 a s1 ha => ⟨a, rfl, ⟨_, SqL.of ha⟩, fun D hD => ?_⟩⟩
    have hx1 := s1 _ _ hx
    have hDx : D ≠ x := (ne_of_none hx1 hD).symm
    refine lc_list (K := K) (a := a) (xs := (wss.map lineL).map tx) (fun i H' => ∃ ps : List Addr, Same H1 H' ∧ H' D = some (.lst (ps.map V.ref)) ∧ Paired (fun b ws => (b ≠ D ∧ b ≠ x) ∧ H' b = some (.lst (ws.map tx))) ps (wss.take i)) ⟨[], same_upd hD, upd_same, .nil⟩ (fun i H' _ h => by obtain ⟨_, h, _⟩ := h; exact SqL.of (h _ _ ha)) ?_ ?_
    · rintro i y H' hi ⟨ps, s2, g2, hp2⟩
      obtain ⟨ws, hws, rfl⟩ : ∃ ws, wss[i]? = some ws ∧ y = tx (lineL ws) := by
        rw [List.getElem?_map, List.getElem?_map] at hi
        cases e : wss[i]? with
        | none => rw [e] at hi; cases hi
        | some t => rw [e] at hi; exact ⟨t, rfl, (Option.some.inj hi).symm⟩
      have hlo := hok ws (List.mem_of_getElem? hws)
      have hll := hlo.len
      have eo : wss.take (i + 1) = wss.take i ++ [ws] := by rw [List.take_add_one, hws] <;> rfl
      have hil : i < wss.length := by
        rcases Nat.lt_or_ge i wss.length with z | z
        · exact z
        · rw [List.getElem?_eq_none z] at hws; cases hws
      have hpl : ps.length = i := by
        have h1 : ps.length = (wss.take i).length := hp2.length
        rw [List.length_take] at h1
        omega
      refine ⟨rfl, _, rfl, ⟨_, rfl⟩, _, _, rfl, rfl, by decide +kernel, by rw [SX.S_len, sizeLine_eq]; omega, ?_⟩
      have esp : Txt.split (SX.S (lineL ws)) (" " : Str) = ws.map SX.S := by
        rw [show (" " : Str) = SX.S [32] from rfl, SX.split_S (by simp) (by decide)]
        unfold lineL
        rw [SX.spl_join hlo.ne (fun p hp => (hlo.w p hp).2.1)]
      rw [esp]
      intro p hp
      have S3 := same_upd (o := .lst ((ws.map SX.S).map V.str)) hp
      have hpD : p ≠ D := (ne_of_none g2 hp).symm
      have hpx : p ≠ x := (ne_of_none (s2 _ _ hx1) hp).symm
      refine ⟨_, S3 _ _ g2, by rw [List.length_map]; exact small1000 (by omega), ps ++ [p], same_new (s2.trans S3) hD, by rw [upd_same, List.map_append] <;> rfl, ?_⟩
      rw [eo]
      refine paired_snoc (L2.Paired.mapP hp2 fun l ws h => ⟨h.1, by rw [upd_ne h.1.1]; exact S3 _ _ h.2⟩) ⟨⟨hpD, hpx⟩, ?_⟩
      rw [upd_ne hpD, upd_same, map_S]
    rintro H2 ⟨ps, s2, gD, hps⟩
    rw [List.length_map, List.length_map, List.take_length] at hps
    have hx2 := s2 _ _ hx1
    have sm2 : Sm x H H2 := Sm.of (s1.trans s2)
    obtain ⟨p0, p1, pr, rfl, R2⟩ : ∃ (p0 p1 : Addr) (pr : List Addr), ps = p0 :: p1 :: pr ∧ RowsAt x D p0 p1 pr rs cs bs H2 := by
      rw [hwss] at hps
      cases hps with
      | cons h0 t =>
        cases t with
        | cons h1 t => exact ⟨_, _, _, rfl, ⟨hDx, gD⟩, ⟨h0.1.2, h0.2⟩, ⟨h1.1.2, h1.2⟩, L2.Paired.mapP t fun _ _ z => ⟨z.1.2, z.2⟩⟩
    clear hps gD
    -- rows == []
    refine ⟨_, rfl, Nat.zero_le _, fun e0 he0 => ?_⟩
    have S3 := same_upd (o := .lst []) he0
    have g3 := upd_same (H := H2) (a := e0) (o := .lst [])
    have hx3 := S3 _ _ hx2
    have sm3 := sm2.trans (Sm.of S3)
    have R3 := R2.keep (Sm.of S3)
    generalize upd H2 e0 (.lst []) = H3 at S3 g3 hx3 sm3 R3 ⊢
    have hasc : ∀ ws ∈ wss, ∀ a ∈ ws, ∀ c ∈ (SX.S a).cps.toList, c < 256 := asc_ok gd hb hwss
    refine ⟨wordsPy wss, .list [], .lst (SqL.of R3.d.2) ?_, .lst (SqL.of g3) .nil, ?_, Lay.shaped (k := 1) (Lay.list fun _ h => absurd h List.not_mem_nil) (by decide), _, rfl, ?_⟩
    · rw [hwss]
      exact .cons (.lst (SqL.of R3.a.2) (dp_words _)) (.cons (.lst (SqL.of R3.b.2) (dp_words _)) (dp_rows (L2.Paired.mapP R3.r fun _ _ z => z.2)))
    · refine Lay.shaped (k := 2) (Lay.list fun d hd => ?_) (by decide)
      obtain ⟨ws, hw, rfl⟩ := List.mem_map.mp hd
      refine Lay.list fun d hd => ?_
      obtain ⟨a, ha, rfl⟩ := List.mem_map.mp hd
      exact Lay.str (hasc ws hw a ha)
    have eqf : PyData.eqv (wordsPy wss) (.list []) = false := by
      rw [hwss]
      simp only [wordsPy, headL, List.cons_append, List.map_cons, PyData.eqv, PyData.eqvAll]
    rw [eqf]
    refine iteF ?_
    -- self.text = text
    refine ⟨_, rfl, _, rfl, x, cProg K, dx, _, rfl, hx3, T.progC, nA "text" (by decide +kernel), by show 0 < 1000; decide, ?_⟩
    have sm4 : Sm x H3 (upd H3 x (.ins (cProg K) dx (putF "text" (tx (textL wss)) []))) := (Sm.refl H3).upd
    have hx4 := upd_same (H := H3) (a := x) (o := .ins (cProg K) dx (putF "text" (tx (textL wss)) []))
    have R4 := R3.keep sm4
    have s4 := sm3.trans sm4
    generalize upd H3 x (.ins (cProg K) dx (putF "text" (tx (textL wss)) [])) = H4 at sm4 hx4 R4 s4 ⊢
    have hr1 := gd.r1
    have hr3 := gd.r3
    have hc1 := gd.c1
    have hc3 := gd.c3
    -- self.registers
    refine ⟨_, rfl, D, _, 0, _, rfl, rfl, SqL.of R4.d.2, atI_nat (j := 0) rfl, p0, regL, rs, 3, 1, rfl, R4.a.2, (fun z => by rw [z] at hr1; exact absurd hr1 (by decide)), gd.rd, gd.rn, by omega, by omega, fun H5 tr s5 ftr => ?_⟩
    have hx5 := s5 _ _ hx4
    have R5 := R4.keep (Sm.of s5)
    refine ⟨_, rfl, x, cProg K, dx, _, rfl, hx5, T.progC, nA "registers" (by decide +kernel), by show 1 < 1000; decide, ?_⟩
    have sm6 : Sm x H5 (upd H5 x (.ins (cProg K) dx (putF "registers" (.ref tr) (putF "text" (tx (textL wss)) [])))) := (Sm.refl H5).upd
    have hx6 := upd_same (H := H5) (a := x) (o := .ins (cProg K) dx (putF "registers" (.ref tr) (putF "text" (tx (textL wss)) [])))
    have R6 := R5.keep sm6
    have trx : tr ≠ x := by
      obtain ⟨o, _, _, e⟩ := ftr
      exact ne_of e hx5 (by intro z; cases z)
    have ftr6 := ftr.keep sm6 trx
    have s6 := (s4.trans (Sm.of s5)).trans sm6
    generalize upd H5 x (.ins (cProg K) dx (putF "registers" (.ref tr) (putF "text" (tx (textL wss)) []))) = H6 at sm6 hx6 R6 ftr6 s6 ⊢
    -- len(rows) == 1
    refine ⟨_, rfl, D, _, rfl, .inl (SqL.of R6.d.2), rfl, _, rfl, iteN (decide_eq_false fun z => ?_) ?_⟩
    · injection z with z
      rw [List.length_map, List.length_cons, List.length_cons] at z
      omega
    -- self.colours
    refine ⟨_, rfl, D, _, 1, _, rfl, rfl, SqL.of R6.d.2, atI_nat (j := 1) rfl, p1, colL, cs, 4, 2, rfl, R6.b.2, (fun z => by rw [z] at hc1; exact absurd hc1 (by decide)), gd.cd, gd.cn, by omega, by omega, fun H7 tc s7 ftc => ?_⟩
    have hx7 := s7 _ _ hx6
    have R7 := R6.keep (Sm.of s7)
    have ftr7 := ftr6.keep (Sm.of (q := x) s7) trx
    refine ⟨_, rfl, x, cProg K, dx, _, rfl, hx7, T.progC, nA "colours" (by decide +kernel), by show 2 < 1000; decide, ?_⟩
    have sm8 : Sm x H7 (upd H7 x (.ins (cProg K) dx (putF "colours" (.ref tc) (putF "registers" (.ref tr) (putF "text" (tx (textL wss)) []))))) := (Sm.refl H7).upd
    have hx8 := upd_same (H := H7) (a := x) (o := .ins (cProg K) dx (putF "colours" (.ref tc) (putF "registers" (.ref tr) (putF "text" (tx (textL wss)) []))))
    have R8 := R7.keep sm8
    have tcx : tc ≠ x := by
      obtain ⟨o, _, _, e⟩ := ftc
      exact ne_of e hx7 (by intro z; cases z)
    have ftr8 := ftr7.keep sm8 trx
    have ftc8 := ftc.keep sm8 tcx
    have s8 := (s6.trans (Sm.of s7)).trans sm8
    generalize upd H7 x (.ins (cProg K) dx (putF "colours" (.ref tc) (putF "registers" (.ref tr) (putF "text" (tx (textL wss)) [])))) = H8 at sm8 hx8 R8 ftr8 ftc8 s8 ⊢
    obtain ⟨fs, hfs⟩ : ∃ fs, fs = putF "colours" (.ref tc) (putF "registers" (.ref tr) (putF "text" (tx (textL wss)) [])) := ⟨_, rfl⟩
    have hfr : fs.lookup ("registers" : Str) = some (.ref tr) := by rw [hfs]; kernel_rfl
    have hfc : fs.lookup ("colours" : Str) = some (.ref tc) := by rw [hfs]; kernel_rfl
    have hfl : fs.length < 1000 := by rw [hfs]; show 3 < 1000; decide
    have hfr2 : ∀ t, (putF "orders" (.ref t) fs).lookup ("registers" : Str) = some (.ref tr) := fun t => by rw [hfs]; kernel_rfl
    have hfc2 : ∀ t, (putF "orders" (.ref t) fs).lookup ("colours" : Str) = some (.ref tc) := fun t => by rw [hfs]; kernel_rfl
    rw [← hfs] at hx8
    clear hfs R7 R6 R5 R4 R3 R2 ftr7 ftr6 ftr ftc hx7 hx6 hx5 hx4 hx3 hx2 hx1 sm8 sm6 sm4 sm3 sm2 s7 s6 s5 s4 S3 g3 s2 s1 ha hD he0 eqf
    -- told_names(rows[2:])
    refine ⟨_, rfl, _, rfl, D, _, rfl, SqL.of R8.d.2, fun b hb0 => ?_⟩
    have ecut : cutV ((p0 :: p1 :: pr).map V.ref) (some 2) none = pr.map V.ref := by
      unfold cutV
      have h1 : HT.sIx ((p0 :: p1 :: pr).map V.ref).length 0 (some (2 : Int)) = 2 := sIx_pos _ 0 2 (by rw [List.length_map, List.length_cons, List.length_cons]; omega)
      rw [h1, HT.sIx_none, List.map_cons, List.map_cons, List.drop_succ_cons, List.drop_succ_cons, List.drop_zero]
      exact List.take_of_length_le (by rw [List.length_cons, List.length_cons]; omega)
    have S9 := same_upd (o := .lst (cutV ((p0 :: p1 :: pr).map V.ref) (some 2) none)) hb0
    have g9 := upd_same (H := H8) (a := b) (o := .lst (cutV ((p0 :: p1 :: pr).map V.ref) (some 2) none))
    rw [ecut] at S9 g9 ⊢
    have hx9 := S9 _ _ hx8
    have R9 := R8.keep (Sm.of S9)
    have ftr9 := ftr8.keep (Sm.of (q := x) S9) trx
    have ftc9 := ftc8.keep (Sm.of (q := x) S9) tcx
    have s9 := s8.trans (Sm.of S9)
    generalize upd H8 b (.lst (pr.map V.ref)) = H9 at S9 g9 hx9 R9 ftr9 ftc9 s9 ⊢
    refine ⟨b, bs, rfl, ⟨pr, g9, L2.Paired.mapP R9.r fun _ _ z => z.2⟩, fun ws hw => ⟨rs, cs, _, hb.od ws hw⟩, hbl, fun d kvs hd0 hk => ?_⟩
    have S10 := same_upd (o := .dK kvs) hd0
    have gd10 := upd_same (H := H9) (a := d) (o := .dK kvs)
    have hx10 := S10 _ _ hx9
    have R10 := R9.keep (Sm.of S10)
    have ftr10 := ftr9.keep (Sm.of (q := x) S10) trx
    have ftc10 := ftc9.keep (Sm.of (q := x) S10) tcx
    have s10 := s9.trans (Sm.of S10)
    generalize upd H9 d (.dK kvs) = HB at S10 gd10 hx10 R10 ftr10 ftc10 s10 ⊢
    -- [], []
    refine ⟨Nat.zero_le _, fun lo hlo => ⟨Nat.zero_le _, fun mm hmm => ⟨_, _, _, rfl, ?_⟩⟩⟩
    have hmmB : HB mm = none := by
      by_cases z : mm = lo
      · rw [z]; exact hlo
      · rw [upd_ne z] at hmm; exact hmm
    have hlm : lo ≠ mm := ne_of_none upd_same hmm
    have S12 : Same HB (upd (upd HB lo (.lst [])) mm (.lst [])) := same_new (same_new (Same.refl HB) hlo) hmmB
    have glo : upd (upd HB lo (.lst [])) mm (.lst []) lo = some (.lst []) := by rw [upd_ne hlm, upd_same]
    have gmm := upd_same (H := upd HB lo (.lst [])) (a := mm) (o := .lst [])
    generalize upd (upd HB lo (.lst [])) mm (.lst []) = H12 at S12 glo gmm ⊢
    -- for at, words in enumerate(rows[2:])
    refine ⟨_, rfl, _, rfl, D, _, rfl, SqL.of (S12 _ _ R10.d.2), fun b2 hb2 => ?_⟩
    have S13 := same_upd (o := .lst (cutV ((p0 :: p1 :: pr).map V.ref) (some 2) none)) hb2
    have g13 := upd_same (H := H12) (a := b2) (o := .lst (cutV ((p0 :: p1 :: pr).map V.ref) (some 2) none))
    rw [ecut] at S13 g13 ⊢
    have glo13 := S13 _ _ glo
    have gmm13 := S13 _ _ gmm
    have nb2 : b2 ≠ lo ∧ b2 ≠ mm := ⟨ne_of_none' glo hb2, ne_of_none' gmm hb2⟩
    have hb2B : HB b2 = none := by
      cases e : HB b2 with
      | none => rfl
      | some o =>
        rw [S12 _ _ e] at hb2
        cases hb2
    have S13B := S12.trans S13
    generalize upd H12 b2 (.lst (pr.map V.ref)) = H13 at S13B g13 glo13 gmm13 ⊢
    clear S12 S13 glo gmm hmm hb2
    have hprl : pr.length = bs.length := by have h1 : pr.length = (bs.map BI.words).length := R10.r.length; rw [List.length_map] at h1; exact h1
    refine ⟨b2, _, rfl, SqL.of g13, ?_⟩
    refine for_it (walk_enum (K := K) (a := b2) (xs := pr.map V.ref)) (fun i σ H' => ∃ (v6 v7 : Option V) (xs : List V), σ = [some (.ref x), some (tx (textL wss)), some (.ref D), some (.ref d), some (.ref lo), some (.ref mm), v6, v7, none] ∧
      Same HB H' ∧ H' b2 = some (.lst (pr.map V.ref)) ∧ H' lo = some (.lst xs) ∧ xs.length ≤ i ∧ H' mm = some (.lst ((marksOf (bs.take i)).map tx))) ⟨none, none, [], rfl, S13B, g13, glo13, Nat.le_refl _, gmm13⟩ (fun i σ H' _ h => ?_) ?_ ?_
    · obtain ⟨_, _, _, _, _, h, _⟩ := h
      exact SqL.of h
    · rintro i y σ H' H'' hi ⟨v6, v7, xs, rfl, sm, gb, gl, hxl, gm⟩ ⟨T', y1, y2, rfl, hT, rfl, h1, h2⟩
      cases h1
      have h2 : (pr.map V.ref)[i]? = some y2 := h2
      obtain ⟨l, hl, rfl⟩ : ∃ t, pr[i]? = some t ∧ y2 = V.ref t := by
        rw [List.getElem?_map] at h2
        cases e : pr[i]? with
        | none => rw [e] at h2; cases h2
        | some t => rw [e] at h2; exact ⟨t, rfl, (Option.some.inj h2).symm⟩
      rw [List.length_map] at hi
      obtain ⟨ws, hws, hlx, hlw⟩ := paired_get R10.r hl
      obtain ⟨bi, hbi, rfl⟩ : ∃ b, bs[i]? = some b ∧ ws = b.words := by
        rw [List.getElem?_map] at hws
        cases e : bs[i]? with
        | none => rw [e] at hws; cases hws
        | some t => rw [e] at hws; exact ⟨t, rfl, (Option.some.inj hws).symm⟩
      have eo : bs.take (i + 1) = bs.take i ++ [bi] := by rw [List.take_add_one, hbi] <;> rfl
      have hmem := List.mem_of_getElem? hbi
      have S1 := same_upd (o := .tup [.int (i : Nat), .ref l]) hT
      have gT := upd_same (H := H') (a := T') (o := .tup [.int (i : Nat), .ref l])
      have sm1 := sm.trans S1
      have gb1 := S1 _ _ gb
      have gl1 := S1 _ _ gl
      have gm1 := S1 _ _ gm
      generalize upd H' T' (.tup [.int (i : Nat), .ref l]) = H1 at S1 gT sm1 gb1 gl1 gm1 ⊢
      clear gb gl gm sm S1 hT
      have hlw1 := sm1 _ _ hlw
      refine ⟨T', _, rfl, SqT.of gT, rfl, _, _, rfl, _, _, rfl, rfl, ?_⟩
      have hmle : ∀ j, (marksOf (bs.take j)).length ≤ 40 := fun j => Nat.le_trans (List.length_filterMap_le _ _) (by rw [List.length_take]; omega)
      cases bi with
      | mk nm =>
        have tAt : tx atL = V.str "at" := congrArg V.str (SX.S_tl _)
        have hm : marksOf (bs.take (i + 1)) = marksOf (bs.take i) ++ [nm] := by rw [eo, marksOf_app] <;> rfl
        have hnm : nm ∉ marksOf (bs.take i) := fun hin => by
          have hnd := hb.nd
          have e2 : marksOf bs = marksOf (bs.take (i + 1)) ++ marksOf (bs.drop (i + 1)) := by rw [← marksOf_app, List.take_append_drop]
          rw [e2, hm, List.nodup_append] at hnd
          have h3 := (List.nodup_append.mp hnd.1).2.2 nm hin nm (List.mem_singleton.mpr rfl)
          exact h3 rfl
        refine ⟨_, rfl, l, _, 0, _, rfl, rfl, SqL.of hlw1, atI_nat (j := 0) rfl, rfl, _, rfl, iteY (by decide +kernel) ?_⟩
        refine ⟨_, rfl, _, rfl, _, _, rfl, rfl, _, rfl, l, mm, atL, nm, marksOf (bs.take i), _, rfl, hlw1, hb.nm nm (List.mem_filterMap.mpr ⟨_, hmem, rfl⟩), gm1, hnm, Nat.le_trans (hmle i) (by decide), fun H2 s2 => ?_⟩
        have n1 : lo ≠ mm := hlm
        refine ⟨_, _, xs, rfl, same_new (sm1.trans s2) hmmB, ?_, ?_, by omega, ?_⟩
        · rw [upd_ne nb2.2]; exact s2 _ _ gb1
        · rw [upd_ne n1]; exact s2 _ _ gl1
        · rw [upd_same, hm]
      | od ws =>
        have hm : marksOf (bs.take (i + 1)) = marksOf (bs.take i) := by rw [eo, marksOf_app]; exact List.append_nil _
        obtain ⟨wd, k, as, k1, rfl, k3⟩ := hb.od ws hmem
        have hne : decide (V.str (SX.S wd.cps.toList) = V.str "at") = false := decide_eq_false fun z => kinds_not_at _ k1 (by injection z with z)
        refine ⟨_, rfl, l, _, 0, _, rfl, rfl, SqL.of hlw1, atI_nat (j := 0) rfl, rfl, _, rfl, iteN hne ?_⟩
        have hxx := sm1 _ _ hx10
        refine ⟨_, rfl, .inl ⟨rfl, _, SqL.of gl1⟩, _, rfl, _, rfl, _, _, rfl, rfl, _, rfl, x, cProg K, dx, _, _, rfl, hxx, T.progC, nA "registers" (by decide +kernel), hfr, _, rfl, x, cProg K, dx, _, _, rfl, hxx, T.progC, nA "colours" (by decide +kernel), hfc, _, rfl, ?_⟩
        refine ⟨l, tr, tc, d, _, wd, k, rs, cs, as, _, kvs, rfl, hlw1, k1, k3, ftr10.keep (f := x) (Sm.of sm1) trx, ftc10.keep (f := x) (Sm.of sm1) tcx, sm1 _ _ gd10, fun z hz => ⟨hb.nm z hz, hk z hz⟩, fun H2 t zs s2 ht => ?_⟩
        refine ⟨lo, xs, _, rfl, rfl, s2 _ _ gl1, small1000 (by omega), _, _, _, rfl, same_new (sm1.trans s2) hlo, ?_, upd_same, by rw [List.length_append, List.length_singleton]; omega, ?_⟩
        · rw [upd_ne nb2.1]; exact s2 _ _ gb1
        · rw [upd_ne hlm.symm, hm]; exact s2 _ _ gm1
    · rintro σ H' ⟨v6, v7, xs, rfl, sm, gb, gl, hxl, gm⟩
      refine ⟨_, rfl, lo, _, rfl, .inl ⟨SqL.of gl, fun t ht => ?_⟩⟩
      have S1 := same_upd (o := .tup xs) ht
      have smt := sm.trans S1
      refine ⟨_, rfl, x, cProg K, dx, _, rfl, smt _ _ hx10, T.progC, nA "orders" (by decide +kernel), hfl, ?_⟩
      have sfin : Sm x HB (upd (upd H' t (.tup xs)) x (.ins (cProg K) dx (putF "orders" (.ref t) fs))) := (Sm.of smt).upd
      exact go _ _ tr tc (s10.trans sfin) upd_same (hfr2 t) (hfc2 t) (ftr10.keep sfin trx) (ftc10.keep sfin tcx)
end
end Tg

-- part KM4
/-! plain integers: bits -/
namespace TgM
def bitOf (v : Int) (k : Nat) : Int := v / 2 ^ k % 2
theorem bitOf_01 (v : Int) (k : Nat) : bitOf v k = 0 ∨ bitOf v k = 1 := by
  unfold bitOf
  omega
/-- the bits of v from the k-th on, n of them, with their weights -/
def sumBits (v : Int) : Nat → Nat → Int
  | _, 0 => 0
  | k, n + 1 => bitOf v k * 2 ^ k + sumBits v (k + 1) n
theorem pow_pos2 (k : Nat) : (0 : Int) < 2 ^ k := Int.pow_pos (by decide)
theorem pow_mono2 {a b : Nat} (h : a ≤ b) : (2 : Int) ^ a ≤ 2 ^ b := by
  have h1 : (2 : Nat) ^ a ≤ 2 ^ b := Nat.pow_le_pow_right (by decide) h
  have h2 : ((2 ^ a : Nat) : Int) ≤ ((2 ^ b : Nat) : Int) := Int.ofNat_le.mpr h1
  rw [Int.natCast_pow, Int.natCast_pow] at h2
  exact h2
theorem sumBits_eq (v : Int) : ∀ n k : Nat, sumBits v k n = (v / 2 ^ k % 2 ^ n) * 2 ^ k
  | 0, k => by
    show (0 : Int) = v / 2 ^ k % 1 * 2 ^ k
    rw [Int.emod_one, Int.zero_mul]
  | n + 1, k => by
    show bitOf v k * 2 ^ k + sumBits v (k + 1) n = _
    rw [sumBits_eq v n (k + 1)]
    unfold bitOf
    have e1 : v / 2 ^ (k + 1) = v / 2 ^ k / 2 := by rw [Int.pow_succ, Int.ediv_ediv_of_nonneg (Int.le_of_lt (pow_pos2 k))]
    have e2 : (2 : Int) ^ (k + 1) = 2 ^ k * 2 := Int.pow_succ 2 k
    have e3 : (2 : Int) ^ (n + 1) = 2 * 2 ^ n := by rw [Int.pow_succ, Int.mul_comm]
    rw [e1, e2, e3]
    generalize hu : v / 2 ^ k = u
    have e4 : u % (2 * 2 ^ n) = u % 2 + 2 * (u / 2 % 2 ^ n) := by
      have h1 := Int.mul_ediv_add_emod u 2
      have h2 := Int.mul_ediv_add_emod (u / 2) (2 ^ n)
      have hb0 := Int.emod_nonneg (u / 2) (Int.ne_of_gt (pow_pos2 n))
      have hb1 := Int.emod_lt_of_pos (u / 2) (pow_pos2 n)
      have ha0 := Int.emod_nonneg u (show (2 : Int) ≠ 0 by decide)
      have ha1 := Int.emod_lt_of_pos u (show (0 : Int) < 2 by decide)
      have key : u = (u % 2 + 2 * (u / 2 % 2 ^ n)) + 2 * 2 ^ n * (u / 2 / 2 ^ n) := by
        have h3 : 2 * 2 ^ n * (u / 2 / 2 ^ n) = 2 * (2 ^ n * (u / 2 / 2 ^ n)) := by rw [Int.mul_assoc]
        rw [h3]
        omega
      conv => lhs; rw [key]
      rw [Int.add_mul_emod_self_left]
      exact Int.emod_eq_of_lt (by omega) (by omega)
    rw [e4, Int.add_mul]
    congr 1
    rw [Int.mul_comm (2 ^ k) 2, ← Int.mul_assoc, Int.mul_comm (u / 2 % 2 ^ n) 2]
theorem sumBits_all {v : Int} {n : Nat} (h0 : 0 ≤ v) (h1 : v < 2 ^ n) : sumBits v 0 n = v := by
  rw [sumBits_eq, show (2 : Int) ^ 0 = 1 from rfl, Int.ediv_one, Int.mul_one]
  exact Int.emod_eq_of_lt h0 h1
abbrev Letter := List Int × List Nat
/-- the number at a place, the letters from the k-th on -/
def numAt (p : Nat) : Nat → List Letter → Int
  | _, [] => 0
  | k, l :: r => l.1.getD p 0 * 2 ^ k + numAt p (k + 1) r
def rowOf (vs : List Int) (c : List Nat) (n : Nat) : List Letter := (List.range n).map fun k => (vs.map fun v => bitOf v k, c)
theorem numAt_map (p : Nat) (f : Nat → Letter) (v : Int) (hf : ∀ k, (f k).1.getD p 0 = bitOf v k) : ∀ n k : Nat, numAt p k ((List.range' k n).map f) = sumBits v k n
  | 0, k => rfl
  | n + 1, k => by
    rw [List.range'_succ, List.map_cons]
    show (f k).1.getD p 0 * 2 ^ k + numAt p (k + 1) _ = bitOf v k * 2 ^ k + sumBits v (k + 1) n
    rw [hf k, numAt_map p f v hf n (k + 1)]
theorem numAt_row {vs : List Int} {c : List Nat} {n p : Nat} (hp : p < vs.length) (h0 : 0 ≤ vs[p]) (h1 : vs[p] < 2 ^ n) : numAt p 0 (rowOf vs c n) = vs[p] := by
  unfold rowOf
  rw [List.range_eq_range', numAt_map p _ vs[p] (fun k => ?_) n 0, sumBits_all h0 h1]
  rw [List.getD_eq_getElem?_getD, List.getElem?_map, List.getElem?_eq_getElem hp]
  rfl
def numsOf (L : List Letter) (m : Nat) : List Int := (List.range m).map fun p => numAt p 0 L
theorem numsOf_row {vs : List Int} {c : List Nat} {n : Nat} (h : ∀ v ∈ vs, 0 ≤ v ∧ v < 2 ^ n) : numsOf (rowOf vs c n) vs.length = vs := by
  unfold numsOf
  refine List.ext_getElem (by simp) fun i h1 h2 => ?_
  rw [List.getElem_map, List.getElem_range]
  obtain ⟨a, b⟩ := h vs[i] (List.getElem_mem h2)
  exact numAt_row h2 a b
theorem numAt_snoc (p : Nat) (l : Letter) : ∀ (k : Nat) (L : List Letter), numAt p k (L ++ [l]) = numAt p k L + l.1.getD p 0 * 2 ^ (k + L.length)
  | k, [] => by
    show l.1.getD p 0 * 2 ^ k + 0 = 0 + l.1.getD p 0 * 2 ^ k
    omega
  | k, a :: r => by
    show a.1.getD p 0 * 2 ^ k + numAt p (k + 1) (r ++ [l]) = a.1.getD p 0 * 2 ^ k + numAt p (k + 1) r + _
    rw [numAt_snoc p l (k + 1) r, List.length_cons, Int.add_assoc, Nat.add_right_comm, Nat.add_assoc]
/-- bits of a number -/
def width (v : Int) : Nat := if v = 0 then 0 else v.natAbs.log2 + 1
theorem lt_width {v : Int} (h0 : 0 ≤ v) : v < 2 ^ width v := by
  unfold width
  by_cases h : v = 0
  · rw [if_pos h, h]
    decide
  · rw [if_neg h]
    have h1 : v.natAbs < 2 ^ (v.natAbs.log2 + 1) := Nat.lt_log2_self
    have h2 : ((v.natAbs : Nat) : Int) < ((2 ^ (v.natAbs.log2 + 1) : Nat) : Int) := Int.ofNat_lt.mpr h1
    rw [Int.natAbs_of_nonneg h0] at h2
    rw [Int.natCast_pow] at h2
    exact h2
theorem width_le {v : Int} {n : Nat} (h0 : 0 ≤ v) (h : v < 2 ^ n) : width v ≤ n := by
  unfold width
  by_cases hv : v = 0
  · rw [if_pos hv]
    exact Nat.zero_le _
  · rw [if_neg hv]
    have h1 : v.natAbs < 2 ^ n := by
      have h2 : ((v.natAbs : Nat) : Int) < ((2 ^ n : Nat) : Int) := by rw [Int.natAbs_of_nonneg h0, Int.natCast_pow]; exact h
      exact Int.ofNat_lt.mp h2
    exact (Nat.log2_lt (by omega)).mpr h1
theorem width_gt {v : Int} {n : Nat} (h0 : 0 ≤ v) (h : (2 : Int) ^ n ≤ v) : n < width v := by
  rcases Nat.lt_or_ge n (width v) with z | z
  · exact z
  · have h1 := lt_width h0
    have h2 : (2 : Int) ^ width v ≤ 2 ^ n := pow_mono2 z
    omega
end TgM

-- part KR
set_option Elab.async false
set_option linter.all false
set_option maxRecDepth 100000
set_option maxHeartbeats 4000000
namespace Tg
open PySem PySem.Spec PyProof.Rows L2 TgM
/-! ### numbers -/
def retE : List Stmt → Expr
  | [.Return (some e) _] => e
  | _ => .Constant .none 0 ⟨0, 0, 0, 0⟩
def arg0 : Expr → Expr
  | .Call _ (e :: _) _ _ => e
  | e => e
def lcScope : Expr → Scope
  | .ListComp _ _ sc _ => sc
  | _ => defScope (top 0)
def rTupOf (K : PySem.W.Frag) : List V → Hp → VK → Prop := fun xs H Q => ∃ p ys, xs = [.ref p] ∧ ((SqL K H p ys ∧ ∀ l, H l = none → Q (.ref l) (upd H l (.tup ys))) ∨ (SqT K H p ys ∧ Q (.ref p) H))
theorem call_tupleK {X : Cx} {K : PySem.W.Frag} (hK : X.K = K) : CallR X (.type "tuple") (rTupOf K) := by
  subst hK
  exact call_tuple_of
theorem pw_abs (k n : Nat) (h : k < n) : ((2 : Int) ^ k).natAbs < 2 ^ n := by
  have e : ((2 : Int) ^ k).natAbs = 2 ^ k := by rw [Int.natAbs_pow] <;> rfl
  rw [e]
  exact Nat.pow_lt_pow_right (by decide) h
section
variable {P : Program} {w : World} {K : PySem.W.Frag} {mg : Str → Option Value} {base : Heap}
def spPower : Sp := fun vs H Q _ => ∃ k : Nat, vs = [.int (k : Int)] ∧ k ≤ 60 ∧ Q (.int (2 ^ k)) H
theorem scPower : FnScope ["_law_place", "_law_found", "_law_lap"] ["_law_place"] (defScope (top 64)) := ⟨rfl, rfl, rfl, by decide +kernel, rfl, by decide +kernel, by decide +kernel⟩
theorem ok_power (T : Txt K mg w) : Cal P w K mg base 1 "_law_power_two" spPower := by
  refine cal_of (N := ["_law_place", "_law_found", "_law_lap"]) (ps := ["_law_place"]) (T.d 32) scPower (fun _ _ _ _ _ _ us hl => match us, hl with | [_], _ => rfl) (fun vs H Q E h => ?_) (fun f0 cdv A outer s H vs Q E hr h => ?_)
  · obtain ⟨k, rfl, _⟩ := h
    rfl
  · obtain ⟨k, rfl, hk, go⟩ := h
    have nd := scPower.nd
    refine ⟨_, pss_cons (ps_set (i := 1) nd rfl (.inl rfl) pe_int)
      (pss_cons (ps_for PassesOwn.never rfl (pi_range1 rfl (T.free "range") (pa_cons (pv 0) pa_nil)) (pg_name (i := 2) nd rfl (.inl rfl)) (pss_one (ps_set (i := 1) nd rfl (.inl rfl) (pe_op op_mulW (pv 1) pe_int))))
      (pss_one (ps_ret (pv 1)))), ?_⟩
    refine ⟨_, rfl, (k : Int), rfl, by omega, by omega, ?_⟩
    refine for_range (lo := 0) (n := (k : Int).toNat) (fun i σ H' => ∃ v2 : Option V, σ = [some (.int (k : Int)), some (.int (2 ^ i)), v2] ∧ H' = H) ⟨none, rfl, rfl⟩ ?_ ?_
    · rintro i σ H' hi ⟨v2, rfl, rfl⟩
      refine ⟨_, rfl, _, _, rfl, rfl, wide_mul (a := 61) (b := 3) (pw_abs i 61 (by omega)) (by decide) (by decide) (by decide) (by decide), _, rfl, rfl⟩
    · rintro σ H' ⟨v2, rfl, rfl⟩
      exact ⟨_, rfl, by rw [Int.toNat_natCast]; exact go⟩
def spDigit : Sp := fun vs H Q _ => ∃ (v : Int) (k : Nat), vs = [.int v, .int (k : Int)] ∧ k ≤ 60 ∧ Q (.int (bitOf v k)) H
theorem scDigit : FnScope ["_law_number", "_law_place"] ["_law_number", "_law_place"] (defScope (top 63)) := ⟨rfl, rfl, rfl, by decide +kernel, rfl, by decide +kernel, by decide +kernel⟩
theorem ok_digit (T : Txt K mg w) : Cal P w K mg base 2 "_law_digit" spDigit := by
  refine cal_of (N := ["_law_number", "_law_place"]) (ps := ["_law_number", "_law_place"]) (T.d 31) scDigit (fun _ _ _ _ _ _ us hl => match us, hl with | [_, _], _ => rfl) (fun vs H Q E h => ?_) (fun f0 cdv A outer s H vs Q E hr h => ?_)
  · obtain ⟨v, k, rfl, _⟩ := h
    rfl
  · obtain ⟨v, k, rfl, hk, go⟩ := h
    refine ⟨_, pss_one (ps_ret (pe_op op_mod (pe_callTy call_int1 (by rfl) (T.free "int") (by decide +kernel) (pa_cons (pe_op op_fdivW (pv 0) (pe_c (ok_power T) hr (by decide) (pa_cons (pv 1) pa_nil))) pa_nil)) pe_int)), ?_⟩
    exact ⟨_, rfl, _, rfl, k, rfl, hk, _, _, rfl, rfl, wide_div (pow_pos2 k) (b := 61) (pw_abs k 61 (by omega)) (by decide) (by decide), .inl ⟨_, rfl, _, _, rfl, rfl, (by show (0 : Int) < 2; decide), go⟩⟩
def spDigits : Sp := fun vs H Q _ => ∃ v : Int, vs = [.int v] ∧ 0 ≤ v ∧ v < 2 ^ 50 ∧ Q (.int (width v : Nat)) H
theorem scDigits : FnScope ["_law_number", "_law_found", "_law_place"] ["_law_number"] (defScope (top 65)) := ⟨rfl, rfl, rfl, by decide +kernel, rfl, by decide +kernel, by decide +kernel⟩
theorem ok_digits (T : Txt K mg w) : Cal P w K mg base 2 "_law_digits" spDigits := by
  refine cal_of (N := ["_law_number", "_law_found", "_law_place"]) (ps := ["_law_number"]) (T.d 33) scDigits (fun _ _ _ _ _ _ us hl => match us, hl with | [_], _ => rfl) (fun vs H Q E h => ?_) (fun f0 cdv A outer s H vs Q E hr h => ?_)
  · obtain ⟨v, rfl, _⟩ := h
    rfl
  · obtain ⟨v, rfl, h0, h1, go⟩ := h
    have nd := scDigits.nd
    have hw50 := width_le h0 h1
    refine ⟨_, pss_cons (ps_set (i := 1) nd rfl (.inl rfl) pe_int)
      (pss_cons (ps_for PassesOwn.never rfl (pi_range1 rfl (T.free "range") (pa_cons pe_int pa_nil)) (pg_name (i := 2) nd rfl (.inl rfl))
        (pss_cons (ps_if (pt_cmpR op_lt (pv 0) (pe_c (ok_power T) hr (by decide) (pa_cons (pv 2) pa_nil)) (nomark _)) (pss_one ps_break) pss_nil)
          (pss_one (ps_set (i := 1) nd rfl (.inl rfl) (pe_op op_add (pv 2) pe_int)))))
      (pss_one (ps_ret (pv 1)))), ?_⟩
    refine ⟨200, rfl, by decide, by decide, ?_⟩
    refine for_range (lo := 0) (n := (200 : Int).toNat) (fun i σ H' => ∃ v2 : Option V, σ = [some (.int v), some (.int (i : Int)), v2] ∧ H' = H ∧ i ≤ width v) ⟨none, rfl, rfl, Nat.zero_le _⟩ ?_ ?_
    · rintro i σ H' hi ⟨v2, rfl, rfl, hiw⟩
      rw [Int.zero_add]
      refine ⟨_, rfl, _, rfl, i, rfl, by omega, _, _, rfl, rfl, _, rfl, ite2 (fun hlt => ?_) (fun hge => ?_)⟩
      · have hlt : v < 2 ^ i := of_decide_eq_true hlt
        have := width_le h0 hlt
        have e : width v = i := by omega
        refine ⟨_, rfl, ?_⟩
        rw [← e]
        exact go
      · have hge : (2 : Int) ^ i ≤ v := by
          rcases Int.lt_or_le v (2 ^ i) with z | z
          · exact absurd (decide_eq_true z) hge
          · exact z
        exact ⟨_, rfl, _, _, rfl, rfl, _, rfl, rfl, width_gt h0 hge⟩
    · rintro σ H' ⟨v2, rfl, rfl, hiw⟩
      have : (200 : Int).toNat = 200 := rfl
      omega
end
end Tg

-- part KS
set_option Elab.async false
set_option linter.all false
set_option maxRecDepth 100000
set_option maxHeartbeats 4000000
namespace Tg
open PySem PySem.Spec PyProof.Rows L2 TgM
/-! ### rows -/
def LetAt (H : Hp) (b : Addr) (l : Letter) : Prop := ∃ t, H b = some (.tup [.ref t, tx l.2]) ∧ H t = some (.tup (l.1.map V.int))
def RowAt (H : Hp) (r : Addr) (L : List Letter) : Prop := ∃ bs : List Addr, H r = some (.tup (bs.map V.ref)) ∧ Paired (LetAt H) bs L
theorem LetAt.same {H H' : Hp} {b : Addr} {l : Letter} (h : LetAt H b l) (s : Same H H') : LetAt H' b l := by
  obtain ⟨t, h1, h2⟩ := h
  exact ⟨t, s _ _ h1, s _ _ h2⟩
theorem RowAt.same {H H' : Hp} {r : Addr} {L : List Letter} (h : RowAt H r L) (s : Same H H') : RowAt H' r L := by
  obtain ⟨bs, h1, h2⟩ := h
  exact ⟨bs, s _ _ h1, L2.Paired.mapP h2 fun _ _ z => z.same s⟩
theorem RowAt.sm {c q : Addr} {n : Nat} {H H' : Hp} {r : Addr} {L : List Letter} (h : RowAt H r L) (s : Sm q H H') (p : PenAt c q n H) : RowAt H' r L := by
  obtain ⟨bs, h1, h2⟩ := h
  exact ⟨bs, s.tup p h1, L2.Paired.mapP h2 fun _ _ ⟨t, a, b⟩ => ⟨t, s.tup p a, s.tup p b⟩⟩
theorem ints_at {js : List Int} {i : Nat} {x : V} (h : (js.map V.int)[i]? = some x) : ∃ j, js[i]? = some j ∧ x = V.int j := at_int h
theorem LetAt.lst {H : Hp} {b D : Addr} {l : Letter} {xs ys : List V} (h : LetAt H b l) (hD : H D = some (.lst xs)) : LetAt (upd H D (.lst ys)) b l := by
  obtain ⟨t, h1, h2⟩ := h
  exact ⟨t, by rw [upd_ne (ne_of h1 hD (by intro z; cases z))]; exact h1, by rw [upd_ne (ne_of h2 hD (by intro z; cases z))]; exact h2⟩
section
variable {P : Program} {w : World} {K : PySem.W.Frag} {mg : Str → Option Value} {base : Heap}
/-! _law_row -/
abbrev nmRow : List Str := ["_law_values", "_law_colours", "_law_at", "_law_colour", "_law_value"]
def spRow : Sp := fun vs H Q _ => ∃ (tv lc : Addr) (ns : List Int) (c : List Nat) (n : Nat), vs = [.ref tv, .ref lc] ∧ H tv = some (.tup (ns.map V.int)) ∧ H lc = some (.lst (List.replicate n (tx c))) ∧ n ≤ 60 ∧ ns.length ≤ 10 ∧
  ∀ (H' : Hp) (r : Addr), Same H H' → RowAt H' r (rowOf ns c n) → Q (.ref r) H'
theorem scRow : FnScope nmRow ["_law_values", "_law_colours"] (defScope (top 66)) := ⟨rfl, rfl, rfl, by decide +kernel, rfl, by decide +kernel, by decide +kernel⟩
theorem ok_row (T : Txt K mg w) : Cal P w K mg base 3 "_law_row" spRow := by
  refine cal_of (N := nmRow) (ps := ["_law_values", "_law_colours"]) (T.d 34) scRow (fun _ _ _ _ _ _ us hl => match us, hl with | [_, _], _ => rfl) (fun vs H Q E h => ?_) (fun f0 cdv A outer s H vs Q E hr h => ?_)
  · obtain ⟨tv, lc, ns, c, n, rfl, _⟩ := h
    rfl
  · obtain ⟨tv, lc, ns, c, n, rfl, htv, hlc, hn, hns, go⟩ := h
    have nd := scRow.nd
    refine ⟨_, pss_one (ps_ret (pe_callTy (r := rTupOf K) (call_tupleK rfl) (by rfl) (T.free "tuple") (by decide +kernel) (pa_cons
      (pe_lc (own := [("_law_at", 2), ("_law_colour", 3)]) (g := gTup K 2 (gCons (gName 2) (gCons (gName 3) gNil))) (tt := tYes) rfl nd (pi_enum rfl (T.free "enumerate") (pa_cons (pv 1) pa_nil)) (blkOk_by (N := nmRow) (sc := defScope (top 66)) (by decide +kernel))
        (fun _ _ _ _ _ => pg_tup (by rfl) (pgs_cons (pg_name (i := 2) nd rfl (.inr rfl)) (pgs_cons (pg_name (i := 3) nd rfl (.inl rfl)) pgs_nil))) (fun _ _ _ _ _ => pts_nil)
        (fun _ _ _ _ _ => pe_tup (pa_cons (pe_callTy (r := rTupOf K) (call_tupleK rfl) (by rfl) (T.free "tuple") (by decide +kernel) (pa_cons
            (pe_lc (wi := iTup K (tVar 0)) (own := [("_law_value", 4)]) (g := gName 4) (tt := tYes) rfl nd (pi_tup (pv 0)) (blkOk_by (N := nmRow) (sc := relS (lcScope (arg0 (retE (defBody (top 66))))) (defScope (top 66))) (by decide +kernel))
              (fun _ _ _ _ _ => pg_name (i := 4) nd rfl (.inl rfl)) (fun _ _ _ _ _ => pts_nil) (fun _ _ _ _ _ => pe_c (ok_digit T) hr (by decide) (pa_cons (pv 4) (pa_cons (pv 2) pa_nil)))) pa_nil)) (pa_cons (pv 3) pa_nil)))) pa_nil))), ?_⟩
    have hrl : (List.replicate n (tx c)).length = n := List.length_replicate
    refine ⟨_, rfl, lc, _, rfl, SqL.of hlc, fun D hD => ?_⟩
    refine lc_it (walk_enum (K := K) (a := lc) (xs := List.replicate n (tx c))) (fun i H' => ∃ bs : List Addr, Same H H' ∧ H' D = some (.lst (bs.map V.ref)) ∧ Paired (LetAt H') bs ((List.range i).map fun k => (ns.map fun v => bitOf v k, c))) ⟨[], same_upd hD, upd_same, .nil⟩ (fun i H' _ h => by obtain ⟨_, h, _⟩ := h; exact SqL.of (h _ _ hlc)) ?_ ?_
    · rintro i x H' H'' hi ⟨bs, s1, g1, hp⟩ ⟨T', y1, y2, rfl, hT, rfl, h1, h2⟩
      cases h1
      have h2 : (List.replicate n (tx c))[i]? = some y2 := h2
      rw [hrl] at hi
      rw [List.getElem?_replicate_of_lt hi] at h2
      cases h2
      have S2 := same_upd (o := .tup [.int (i : Nat), tx c]) hT
      have gT := upd_same (H := H') (a := T') (o := .tup [.int (i : Nat), tx c])
      have s12 := s1.trans S2
      have g2 := S2 _ _ g1
      have hp2 := L2.Paired.mapP hp fun _ _ z => z.same S2
      generalize upd H' T' (.tup [.int (i : Nat), tx c]) = H2 at S2 gT s12 g2 hp2 ⊢
      have hbl : bs.length = i := by
        have h3 : bs.length = ((List.range i).map fun k => (ns.map fun v => bitOf v k, c)).length := hp.length
        rw [List.length_map, List.length_range] at h3
        exact h3
      refine ⟨T', _, rfl, SqT.of gT, rfl, _, _, rfl, _, _, rfl, rfl, rfl, ?_⟩
      refine ⟨_, rfl, tv, rfl, ⟨_, SqT.of (s12 _ _ htv)⟩, fun D2 hD2 => ?_⟩
      refine lc_tup (K := K) (a := tv) (xs := ns.map V.int) (fun j H' => Same H2 H' ∧ H' D2 = some (.lst (((ns.take j).map fun v => bitOf v i).map V.int))) ⟨same_upd hD2, upd_same⟩ (fun j H' _ h => SqT.of (h.1 _ _ (s12 _ _ htv))) ?_ ?_
      · rintro j x H' hj ⟨s3, g3⟩
        obtain ⟨v, hv, rfl⟩ := at_int hj
        have eo : ns.take (j + 1) = ns.take j ++ [v] := by rw [List.take_add_one, hv] <;> rfl
        refine ⟨rfl, _, rfl, _, rfl, v, i, rfl, by omega, _, g3, ?_, same_new s3 hD2, ?_⟩
        · rw [List.length_map, List.length_map, List.length_take]
          exact small1000 (by omega)
        · rw [eo, List.map_append, upd_same, List.map_append]
          rfl
      rintro H3 ⟨s3, g3⟩
      rw [List.length_map, List.take_length] at g3
      refine ⟨D2, _, rfl, .inl ⟨SqL.of g3, fun t ht => ⟨_, rfl, by show 2 ≤ sizeLine; decide, fun b hb => ?_⟩⟩⟩
      have S4 := s3.trans (same_upd (o := .tup ((ns.map fun v => bitOf v i).map V.int)) ht)
      have S5 := same_upd (o := .tup [.ref t, tx c]) hb
      have S25 := S4.trans S5
      have gt := S5 _ _ (upd_same (H := H3) (a := t) (o := .tup ((ns.map fun v => bitOf v i).map V.int)))
      have gb := upd_same (H := upd H3 t (.tup ((ns.map fun v => bitOf v i).map V.int))) (a := b) (o := .tup [.ref t, tx c])
      have gD := S25 _ _ g2
      refine ⟨_, gD, by rw [List.length_map]; exact small1000 (by omega), bs ++ [b], same_new (s12.trans S25) hD, by rw [upd_same, List.map_append] <;> rfl, ?_⟩
      rw [List.range_succ, List.map_append]
      exact paired_snoc (L2.Paired.mapP hp2 fun _ _ z => (z.same S25).lst gD) (LetAt.lst ⟨t, gb, gt⟩ gD)
    rintro H1 ⟨bs, s1, g1, hp⟩
    rw [hrl] at hp
    refine ⟨D, _, rfl, .inl ⟨SqL.of g1, fun r hr => go _ r (s1.trans (same_upd hr)) ⟨bs, upd_same, L2.Paired.mapP hp fun _ _ z => z.same (same_upd hr)⟩⟩⟩
end
end Tg

-- part KSl
set_option Elab.async false
set_option linter.all false
set_option maxRecDepth 100000
set_option maxHeartbeats 4000000
/-! xs[1::2], of few items -/
namespace Tg
open PySem PySem.Spec PyProof.Rows L2
section
variable {prog : Program} {w : World} {A : Around} {E : Value → Shared → Prop} {s : Shared}
theorem odd4 (a b c d : Value) : slicePick [a, b, c, d].toArray (some 1) none (some 2) = [b, d].toArray := by kernel_rfl
theorem odd0 : slicePick ([] : List Value).toArray (some 1) none (some 2) = ([] : List Value).toArray := by kernel_rfl
theorem odd_tup {t sl : Addr} {u : Value} {vl vu vs : Value} {Q : Value → Shared → Prop} (ht : IsTup s.heap t [u].toArray) (hs : s.heap.IsSliceOf sl vl vu vs) (pl : IsPart vl (some 1)) (pu : IsPart vu none) (ps : IsPart vs (some 2))
    (h : Q (.ref s.heap.objs.size) { s with heap := s.heap.push { cls := .type "tuple", data := .seq #[] } }) : wpAny (model prog w) A (getItem (.ref t) (.ref sl)) Q E s := by
  obtain ⟨os, hos, hcs, hds⟩ := id hs
  have hT : s.TypeIs (.ref sl) "slice" := ⟨os, hos, hcs⟩
  unfold getItem
  try with_reducible refine wpAny_holding ?_
  first | refine wpAny_bind (wpAny_pure ?_) | skip
  refine wpAny_bind (wpAny_sequenceKey ht.typeIs (by decide) (wpAny_bind (wpAny_callSpecial?_slot (name := Str.ofString "__getitem__") ht.typeIs PyProof.Rows.slot_tuple_getitem (wpAny_call_entry PyProof.Rows.slot_tuple_getitem ht.typeIs entry_tuple_getitem ?_ (args_tuple_getitem _ _)))))
  show wpAny _ _ (Builtin.Tuple.tupleItemsOf (.ref t) >>= _) _ _ s
  refine wpAny_bind (PyProof.Rows.tupleItemsOf_ ht (wpAny_bind (wpAny_typeOf hT ?_)))
  rw [if_pos (by decide)]
  refine wpAny_bind ?_
  unfold Builtin.Slice.sliceApplied Builtin.Slice.sliceFields
  refine wpAny_bind (wpAny_bind (wpAny_field hos hds (x := vl) rfl (wpAny_bind (wpAny_field hos hds (x := vu) rfl (wpAny_bind (wpAny_field hos hds (x := vs) rfl (wpAny_pure ?_)))))))
  refine wpAny_bind (HT.slicePart_ ps ?_)
  show wpAny _ _ (if ((2 : Int) == 0) = true then _ else _) _ _ s
  rw [if_neg (by decide)]
  refine wpAny_bind (HT.slicePart_ pl (wpAny_bind (HT.slicePart_ pu (wpAny_bind (wpAny_pure ?_)))))
  show wpAny _ _ (pure ((1 : Int), (2 : Int), 0)) _ _ s
  refine wpAny_pure ?_
  show wpAny _ _ (if (((1 : Int) == 0 && (2 : Int) == 1 && 0 == 1) = true) then _ else _) _ _ s
  rw [if_neg (by decide)]
  have hz : sizeOk (.seq #[]) := Nat.zero_le _
  first
    | exact wpAny_bind (m := Builtin.Tuple.tupleExact _) (wpAny_newObj_type (wpAny_pure ⟨_, rfl, wpAny_pure h⟩) hz)
    | exact wpAny_bind (m := Builtin.Tuple.tupleExact _) (wpAny_newObj_type (wpAny_bind (wpAny_pure (wpAny_pure ⟨_, rfl, wpAny_pure h⟩))) hz)
    | exact wpAny_bind (wpAny_bind (m := Builtin.Tuple.tupleExact _) (wpAny_newObj_type (wpAny_pure (wpAny_pure ⟨_, rfl, wpAny_pure h⟩)) hz))
    | exact wpAny_bind (wpAny_bind (m := Builtin.Tuple.tupleExact _) (wpAny_newObj_type (wpAny_pure ⟨_, rfl, wpAny_pure h⟩) hz))
end
inductive OddOf : List V → List V → Prop where
  | four (a b c d : V) : OddOf [a, b, c, d] [b, d]
  | none : OddOf [] []
def tOddL (K : PySem.W.Frag) (te : TE) : TE := fun σ H Q => te σ H fun x H1 => ∃ a xs ys, x = .ref a ∧ SqL K H1 a xs ∧ OddOf xs ys ∧ ∀ p, H1 p = none → Q (.ref p) (upd H1 p (.lst ys))
def tOddT (K : PySem.W.Frag) (te : TE) : TE := fun σ H Q => te σ H fun x H1 => ∃ a y, x = .ref a ∧ SqT K H1 a [y] ∧ ∀ p, H1 p = none → Q (.ref p) (upd H1 p (.tup []))
section
variable {X : Cx}
theorem pe_oddL {e : Expr} {te : TE} {k k2 : Nat} {p1 p2 p3 pos : Pos} (he : PE X e te) : PE X (.Subscript e (.Slice (some (.Constant (.int 1) k p1)) none (some (.Constant (.int 2) k2 p2)) p3) pos) (tOddL X.K te) := by
  refine ⟨fun pins s σ H Q I h => Subscript_ (thn (he.run pins s σ H _ I h) fun v s1 ⟨x, H1, I1, r1, q1⟩ => ?_)⟩
  obtain ⟨a, xs, ys, rfl, hx, hodd, q⟩ := q1
  cases r1
  have h1 : PO X (some (.Constant (.int 1) k p1)) (tPart (tC (.int 1))) := po_some pe_int
  have h2 : PO X (some (.Constant (.int 2) k2 p2)) (tPart (tC (.int 2))) := po_some pe_int
  refine wpAny_Slice (thn (h1.run pins s1 σ H1 (fun o H2 => o = some 1 ∧ H2 = H1) I1 ⟨1, rfl, rfl, rfl⟩) fun vl s2 ⟨l, H2, I2, pl, el, e2⟩ => ?_)
  subst el e2
  refine thn (po_none.run pins s2 σ H2 (fun o H3 => o = none ∧ H3 = H2) I2 ⟨rfl, rfl⟩) fun vu s3 ⟨u, H3, I3, pu, eu, e3⟩ => ?_
  subst eu e3
  refine thn (h2.run pins s3 σ H3 (fun o H4 => o = some 2 ∧ H4 = H3) I3 ⟨2, rfl, rfl, rfl⟩) fun vs s4 ⟨o, H4, I4, ps, eo, e4⟩ => ?_
  subst eo e4
  have I5 : Inv X pins σ H4 { s4 with heap := s4.heap.push { cls := .type "slice", data := .fields #[vl, vu, vs] } } := I4.kept (t' := s4.toks) fun b ob q => Heap.get?_push_of_some _ q
  obtain ⟨its, r, ht, hz⟩ := I5.list hx
  show wpAny (model X.prog X.w) X.A (subscriptTail e (.Slice (some (.Constant (.int 1) k p1)) none (some (.Constant (.int 2) k2 p2)) p3) (.ref a) (.ref s4.heap.objs.size)) (EP X pins σ Q) X.xe { s4 with heap := s4.heap.push { cls := .type "slice", data := .fields #[vl, vu, vs] } }
  refine tail_any (ops := [.ref a, .ref s4.heap.objs.size]) ht.isList.typeIs (PySem.slot_list_getitem.lookup) ?_ (by with_unfolding_all rfl)
  have hl := r.length
  refine wpAny_getItem_list_slice ht.isList (Heap.IsSliceOf.new _ vl vu vs) pl pu ps (by decide) ?_ (by rw [List.size_toArray]; omega)
  obtain ⟨its', r', e'⟩ : ∃ its', Vals ys its' ∧ slicePick its.toArray (some 1) none (some 2) = its'.toArray := by
    cases hodd with
    | none =>
      cases r
      exact ⟨[], .nil, odd0⟩
    | four a b c d =>
      cases r with
      | cons r1 r => cases r with
        | cons r2 r => cases r with
          | cons r3 r => cases r with
            | cons r4 r =>
              cases r
              exact ⟨_, .cons r2 (.cons r4 .nil), odd4 _ _ _ _⟩
  rw [e']
  have hys : ys.length ≤ sizeLine := by
    cases hodd with
    | none => exact Nat.zero_le _
    | four a b c d => show 2 ≤ sizeLine; decide
  exact ⟨.ref _, _, I5.laid (t' := s4.toks) (o := .lst ys) (fun b ob q => Heap.get?_push_of_some _ q) (Nat.le_refl _) ⟨hys, its', 0, r', Heap.get?_push_size _ rfl⟩, rfl, q _ (I5.hok.fresh (Nat.le_refl _))⟩
theorem pe_oddT {e : Expr} {te : TE} {k k2 : Nat} {p1 p2 p3 pos : Pos} (he : PE X e te) : PE X (.Subscript e (.Slice (some (.Constant (.int 1) k p1)) none (some (.Constant (.int 2) k2 p2)) p3) pos) (tOddT X.K te) := by
  refine ⟨fun pins s σ H Q I h => Subscript_ (thn (he.run pins s σ H _ I h) fun v s1 ⟨x, H1, I1, r1, q1⟩ => ?_)⟩
  obtain ⟨a, y, rfl, hx, q⟩ := q1
  cases r1
  have h1 : PO X (some (.Constant (.int 1) k p1)) (tPart (tC (.int 1))) := po_some pe_int
  have h2 : PO X (some (.Constant (.int 2) k2 p2)) (tPart (tC (.int 2))) := po_some pe_int
  refine wpAny_Slice (thn (h1.run pins s1 σ H1 (fun o H2 => o = some 1 ∧ H2 = H1) I1 ⟨1, rfl, rfl, rfl⟩) fun vl s2 ⟨l, H2, I2, pl, el, e2⟩ => ?_)
  subst el e2
  refine thn (po_none.run pins s2 σ H2 (fun o H3 => o = none ∧ H3 = H2) I2 ⟨rfl, rfl⟩) fun vu s3 ⟨u, H3, I3, pu, eu, e3⟩ => ?_
  subst eu e3
  refine thn (h2.run pins s3 σ H3 (fun o H4 => o = some 2 ∧ H4 = H3) I3 ⟨2, rfl, rfl, rfl⟩) fun vs s4 ⟨o, H4, I4, ps, eo, e4⟩ => ?_
  subst eo e4
  have I5 : Inv X pins σ H4 { s4 with heap := s4.heap.push { cls := .type "slice", data := .fields #[vl, vu, vs] } } := I4.kept (t' := s4.toks) fun b ob q => Heap.get?_push_of_some _ q
  obtain ⟨its, r, ht, hz⟩ := I5.tuple hx
  obtain ⟨u, rfl, ru⟩ := vals1 r
  show wpAny (model X.prog X.w) X.A (subscriptTail e (.Slice (some (.Constant (.int 1) k p1)) none (some (.Constant (.int 2) k2 p2)) p3) (.ref a) (.ref s4.heap.objs.size)) (EP X pins σ Q) X.xe { s4 with heap := s4.heap.push { cls := .type "slice", data := .fields #[vl, vu, vs] } }
  refine tail_any (ops := [.ref a, .ref s4.heap.objs.size]) ht.typeIs (PyProof.Rows.slot_tuple_getitem.lookup) ?_ (by with_unfolding_all rfl)
  refine odd_tup ht (Heap.IsSliceOf.new _ vl vu vs) pl pu ps ?_
  exact ⟨.ref _, _, I5.laid (t' := s4.toks) (o := .tup []) (fun b ob q => Heap.get?_push_of_some _ q) (Nat.le_refl _) ⟨Nat.zero_le _, [], .nil, IsTup.new _ _⟩, rfl, q _ (I5.hok.fresh (Nat.le_refl _))⟩
end
end Tg

-- part KT
set_option Elab.async false
set_option linter.all false
set_option maxRecDepth 100000
set_option maxHeartbeats 4000000
namespace Tg
open PySem PySem.Spec PyProof.Rows L2 TgM
def retE2 : List Stmt → Expr
  | [_, .Return (some e) _] => e
  | _ => .Constant .none 0 ⟨0, 0, 0, 0⟩
section
variable {P : Program} {w : World} {K : PySem.W.Frag} {mg : Str → Option Value} {base : Heap}
/-! _law_some_values -/
abbrev nmSome : List Str := ["_law_pen_here", "_law_many", "_law_lap"]
def spSome : Sp := fun vs H Q _ => ∃ (c q : Addr) (n : Nat) (m : Nat), vs = [.ref q, .int (m : Int)] ∧ PenAt c q n H ∧ n < 2 ^ 38 ∧ m ≤ 3 ∧
  ∀ (H' : Hp) (t : Addr) (ns : List Int), Sm q H H' → PenAt c q (n + 9) H' → H' t = some (.tup (ns.map V.int)) → ns.length = m → (∀ v ∈ ns, 0 ≤ v ∧ v < 2 ^ 40) → Q (.ref t) H'
theorem scSome : FnScope nmSome ["_law_pen_here", "_law_many"] (defScope (top 62)) := ⟨rfl, rfl, rfl, by decide +kernel, rfl, by decide +kernel, by decide +kernel⟩
theorem ok_some (T : Txt K mg w) : Cal P w K mg base 3 "_law_some_values" spSome := by
  refine cal_of (N := nmSome) (ps := ["_law_pen_here", "_law_many"]) (T.d 30) scSome (fun _ _ _ _ _ _ us hl => match us, hl with | [_, _], _ => rfl) (fun vs H Q E h => ?_) (fun f0 cdv A outer s H vs Q E hr h => ?_)
  · obtain ⟨c, q, n, m, rfl, _⟩ := h
    rfl
  · obtain ⟨c, q, n, m, rfl, pen, hn, hm, go⟩ := h
    have nd := scSome.nd
    refine ⟨_, pss_one (ps_ret (pe_callTy (r := rTupOf K) (call_tupleK rfl) (by rfl) (T.free "tuple") (by decide +kernel) (pa_cons
      (pe_lc (own := [("_law_lap", 2)]) (g := gName 2) (tt := tYes) rfl nd (pi_range1 rfl (T.free "range") (pa_cons (pv 1) pa_nil)) (blkOk_by (N := nmSome) (sc := defScope (top 62)) (by decide +kernel))
        (fun _ _ _ _ _ => pg_name (i := 2) nd rfl (.inl rfl)) (fun _ _ _ _ _ => pts_nil)
        (fun _ _ _ _ _ => pe_c (ok_pick T) hr (by decide) (pa_cons (pv 0) (pa_cons (pe_lst (pa_cons pe_int (pa_cons pe_int (pa_cons pe_int (pa_cons pe_int (pa_cons (pe_c (ok_draw T) hr (by decide) (pa_cons (pv 0) (pa_cons pe_int pa_nil))) (pa_cons (pe_c (ok_draw T) hr (by decide) (pa_cons (pv 0) (pa_cons pe_int pa_nil))) pa_nil))))))) pa_nil)))) pa_nil))), ?_⟩
    refine ⟨_, rfl, (m : Int), rfl, by omega, by omega, fun D hD => ?_⟩
    have hDq : D ≠ q := pen.ne_none hD
    refine lc_range (lo := 0) (n := (m : Int).toNat) (fun i H' => ∃ ns : List Int, ns.length = i ∧ (∀ v ∈ ns, 0 ≤ v ∧ v < 2 ^ 40) ∧ Sm q H H' ∧ PenAt c q (n + 3 * i) H' ∧ H' D = some (.lst (ns.map V.int))) ?_ ?_ ?_
    · exact ⟨[], rfl, fun _ h => absurd h List.not_mem_nil, (Sm.refl H).new hD, pen.upd hD, upd_same⟩
    · rintro i H' hi ⟨ns, rfl, hns, s1, p1, g1⟩
      refine ⟨rfl, _, rfl, _, rfl, c, q, n + 3 * ns.length, 16, rfl, p1, by omega, by decide, by decide, fun H2 r1 s2 p2 a0 a1 => ?_⟩
      refine ⟨_, rfl, c, q, n + 3 * ns.length + 1, 200, rfl, p2, by omega, by decide, by decide, fun H3 r2 s3 p3 b0 b1 => ⟨by show 6 ≤ sizeLine; decide, fun p hp => ?_⟩⟩
      refine ⟨c, q, p, n + 3 * ns.length + 1 + 1, _, rfl, p3.upd hp, by omega, SqL.of upd_same, by show 0 < 6; decide, by show 6 ≤ 1000; decide, fun H4 x s4 p4 hx => ?_⟩
      obtain ⟨v, rfl, v0, v1⟩ : ∃ v : Int, x = .int v ∧ 0 ≤ v ∧ v < 2 ^ 40 := by
        have big : (1000 : Int) < 2 ^ 40 := by decide
        simp only [List.mem_cons, List.not_mem_nil, or_false] at hx
        rcases hx with rfl | rfl | rfl | rfl | rfl | rfl <;> exact ⟨_, rfl, by omega, by omega⟩
      have s14 : Sm q H' H4 := (s2.trans s3).trans (((Sm.refl H3).new hp).trans s4)
      have g4 := s14 _ _ hDq g1
      refine ⟨_, g4, by rw [List.length_map]; exact small1000 (by omega), ns ++ [v], by simp, fun y hy => ?_, (s1.trans s14).new hD, ?_, by rw [upd_same, List.map_append] <;> rfl⟩
      · rcases List.mem_append.mp hy with hy | hy
        · exact hns y hy
        · rw [List.mem_singleton.mp hy]
          exact ⟨v0, v1⟩
      · have e : n + 3 * ns.length + 1 + 1 + 1 = n + 3 * (ns.length + 1) := by omega
        rw [e] at p4
        exact p4.new pen hD
    rintro H1 ⟨ns, hl, hns, s1, p1, g1⟩
    have hl2 : ns.length = m := by omega
    refine ⟨D, _, rfl, .inl ⟨SqL.of g1, fun t ht => go _ t ns (s1.trans ((Sm.refl H1).new ht)) ((p1.mono (by omega)).upd ht) upd_same hl2 hns⟩⟩
/-! _law_total -/
abbrev nmTotal : List Str := ["_law_row_here", "_law_place", "_law_at", "_law_letter"]
def BitRow (m : Nat) (L : List Letter) : Prop := ∀ l ∈ L, l.1.length = m ∧ ∀ d ∈ l.1, d = 0 ∨ d = 1
def spTotal : Sp := fun vs H Q _ => ∃ (r : Addr) (L : List Letter) (m p : Nat), vs = [.ref r, .int (p : Int)] ∧ RowAt H r L ∧ BitRow m L ∧ p < m ∧ L.length ≤ 60 ∧ ∀ H', Same H H' → Q (.int (numAt p 0 L)) H'
theorem scTotal : FnScope nmTotal ["_law_row_here", "_law_place"] (defScope (top 68)) := ⟨rfl, rfl, rfl, by decide +kernel, rfl, by decide +kernel, by decide +kernel⟩
theorem ok_total (T : Txt K mg w) : Cal P w K mg base 2 "_law_total" spTotal := by
  refine cal_of (N := nmTotal) (ps := ["_law_row_here", "_law_place"]) (T.d 36) scTotal (fun _ _ _ _ _ _ us hl => match us, hl with | [_, _], _ => rfl) (fun vs H Q E h => ?_) (fun f0 cdv A outer s H vs Q E hr h => ?_)
  · obtain ⟨r, L, m, p, rfl, _⟩ := h
    rfl
  · obtain ⟨r, L, m, p, rfl, ⟨bs, hr0, hp⟩, hbit, hpm, hL, go⟩ := h
    have nd := scTotal.nd
    refine ⟨_, pss_one (ps_ret (pe_callB (r := rSum K) (cr_sum rfl) (by rfl) (T.free "sum") (by decide +kernel) (pa_cons
      (pe_lc (own := [("_law_at", 2), ("_law_letter", 3)]) (g := gTup K 2 (gCons (gName 2) (gCons (gName 3) gNil))) (tt := tTest (tOp rEq (tOp (rIxT K) (tOp (rIxT K) (tVar 3) (tC (.int 0))) (tVar 1)) (tC (.int 1)))) rfl nd (pi_enumT rfl (T.free "enumerate") (pa_cons (pv 0) pa_nil)) (blkOk_by (N := nmTotal) (sc := defScope (top 68)) (by decide +kernel))
        (fun _ _ _ _ _ => pg_tup (by rfl) (pgs_cons (pg_name (i := 2) nd rfl (.inl rfl)) (pgs_cons (pg_name (i := 3) nd rfl (.inl rfl)) pgs_nil)))
        (fun _ _ _ _ _ => pts_one (pt_cmpR op_eq (pe_ix (r := rIxT K) ix_tup (pe_ix (r := rIxT K) ix_tup (pv 3) pe_int (fun _ _ => rfl)) (pv 1) (fun _ _ => rfl)) pe_int (nomark _)))
        (fun _ _ _ _ _ => pe_c (ok_power T) hr (by decide) (pa_cons (pv 2) pa_nil))) pa_nil))), ?_⟩
    have hbl : bs.length = L.length := hp.length
    refine ⟨_, rfl, r, _, rfl, SqT.of hr0, fun D hD => ?_⟩
    refine lc_it (walk_enumT (K := K) (a := r) (xs := bs.map V.ref)) (fun i H' => ∃ ms : List Int, Same H H' ∧ H' D = some (.lst (ms.map V.int)) ∧ ms.length ≤ i ∧ ms.sum = numAt p 0 (L.take i)) ⟨[], same_upd hD, upd_same, Nat.le_refl _, rfl⟩ (fun i H' _ h => by obtain ⟨_, h, _⟩ := h; exact SqT.of (h _ _ hr0)) ?_ ?_
    · rintro i x H' H'' hi ⟨ms, s1, g1, hml, hms⟩ ⟨T', y1, y2, rfl, hT, rfl, h1, h2⟩
      cases h1
      have h2 : (bs.map V.ref)[i]? = some y2 := h2
      rw [List.length_map] at hi
      obtain ⟨b, hb, rfl⟩ : ∃ t, bs[i]? = some t ∧ y2 = V.ref t := by
        rw [List.getElem?_map] at h2
        cases e : bs[i]? with
        | none => rw [e] at h2; cases h2
        | some t => rw [e] at h2; exact ⟨t, rfl, (Option.some.inj h2).symm⟩
      obtain ⟨l, hl, t, hbt, htt⟩ := paired_get hp hb
      obtain ⟨hlm, hd⟩ := hbit l (List.mem_of_getElem? hl)
      have eo : L.take (i + 1) = L.take i ++ [l] := by rw [List.take_add_one, hl] <;> rfl
      have etl : (L.take i).length = i := by rw [List.length_take]; omega
      have S2 := same_upd (o := .tup [.int (i : Nat), .ref b]) hT
      have gT := upd_same (H := H') (a := T') (o := .tup [.int (i : Nat), .ref b])
      have s12 := s1.trans S2
      have g2 := S2 _ _ g1
      generalize upd H' T' (.tup [.int (i : Nat), .ref b]) = H2 at S2 gT s12 g2 ⊢
      have hpl : p < l.1.length := by omega
      have hat : atI (l.1.map V.int) ((p : Nat) : Int) = some (.int (l.1.getD p 0)) := atI_nat (by rw [List.getElem?_map, List.getElem?_eq_getElem hpl, List.getD_eq_getElem?_getD, List.getElem?_eq_getElem hpl] <;> rfl)
      have hd01 : l.1.getD p 0 = 0 ∨ l.1.getD p 0 = 1 := by
        rw [List.getD_eq_getElem?_getD, List.getElem?_eq_getElem hpl]
        exact hd _ (List.getElem_mem hpl)
      refine ⟨T', _, rfl, SqT.of gT, rfl, _, _, rfl, _, _, rfl, rfl, rfl, ?_⟩
      refine ⟨_, rfl, b, _, 0, _, rfl, rfl, SqT.of (s12 _ _ hbt), atI_nat (j := 0) rfl, _, rfl, t, _, _, _, rfl, rfl, SqT.of (s12 _ _ htt), hat, rfl, _, rfl, ?_⟩
      rcases hd01 with e | e
      · rw [e]
        refine iteN (by decide +kernel) ⟨ms, s12, g2, by omega, ?_⟩
        rw [eo, numAt_snoc, e, hms]
        omega
      · rw [e]
        refine iteY (by decide +kernel) ⟨_, rfl, i, rfl, by omega, _, g2, by rw [List.length_map]; exact small1000 (by omega), ms ++ [2 ^ i], same_new s12 hD, by rw [upd_same, List.map_append] <;> rfl, by rw [List.length_append, List.length_singleton]; omega, ?_⟩
        rw [eo, numAt_snoc, e, etl, List.sum_append, hms]
        show _ + (2 ^ i + 0) = _ + 1 * 2 ^ (0 + i)
        rw [Nat.zero_add]
        omega
    rintro H1 ⟨ms, s1, g1, hml, hms⟩
    rw [List.length_map, hbl, List.take_length] at hms
    refine ⟨D, ms, rfl, SqL.of g1, ?_⟩
    rw [hms]
    exact go _ s1
end
end Tg

-- part KU
set_option Elab.async false
set_option linter.all false
set_option maxRecDepth 100000
set_option maxHeartbeats 4000000
namespace Tg
open PySem PySem.Spec PyProof.Rows L2 TgM
section
variable {P : Program} {w : World} {K : PySem.W.Frag} {mg : Str → Option Value} {base : Heap}
/-! values_of -/
abbrev nmVals : List Str := ["row", "digits", "letter", "place", "at", "cell"]
def spVals : Sp := fun vs H Q _ => ∃ (r : Addr) (L : List Letter) (m : Nat), vs = [.ref r] ∧ RowAt H r L ∧ BitRow m L ∧ 0 < L.length ∧ L.length ≤ 60 ∧ m ≤ 10 ∧
  ∀ (H' : Hp) (t : Addr), Same H H' → H' t = some (.tup ((numsOf L m).map V.int)) → Q (.ref t) H'
theorem scVals : FnScope nmVals ["row"] (defScope (top 39)) := ⟨rfl, rfl, rfl, by decide +kernel, rfl, by decide +kernel, by decide +kernel⟩
theorem ok_vals (T : Txt K mg w) : Cal P w K mg base 1 "values_of" spVals := by
  refine cal_of (N := nmVals) (ps := ["row"]) (T.d 15) scVals (fun _ _ _ _ _ _ us hl => match us, hl with | [_], _ => rfl) (fun vs H Q E h => ?_) (fun f0 cdv A outer s H vs Q E hr h => ?_)
  · obtain ⟨r, L, m, rfl, _⟩ := h
    rfl
  · obtain ⟨r, L, m, rfl, ⟨bs, hr0, hp⟩, hbit, h0, hL, hm, go⟩ := h
    have nd := scVals.nd
    refine ⟨_, pss_cons (ps_set (i := 1) nd rfl (.inr rfl) (pe_lc (own := [("letter", 2)]) (g := gName 2) (tt := tYes) rfl nd (pi_tup (pv 0)) (blkOk_by (N := nmVals) (sc := defScope (top 39)) (by decide +kernel))
        (fun _ _ _ _ _ => pg_name (i := 2) nd rfl (.inl rfl)) (fun _ _ _ _ _ => pts_nil) (fun _ _ _ _ _ => pe_ix (r := rIxT K) ix_tup (pv 2) pe_int (fun _ _ => rfl))))
      (pss_one (ps_ret (pe_callTy (r := rTupOf K) (call_tupleK rfl) (by rfl) (T.free "tuple") (by decide +kernel) (pa_cons
        (pe_lc (own := [("place", 3)]) (g := gName 3) (tt := tYes) rfl nd (pi_range1 rfl (T.free "range") (pa_cons (pe_callB call_len_seq (by rfl) (T.free "len") PySem.boot_len (pa_cons (pe_ix ix_list (pv 1) pe_int (fun _ _ => rfl)) pa_nil)) pa_nil)) (blkOk_by (N := nmVals) (sc := defScope (top 39)) (by decide +kernel))
          (fun _ _ _ _ _ => pg_name (i := 3) nd rfl (.inr rfl)) (fun _ _ _ _ _ => pts_nil)
          (fun _ _ _ _ _ => pe_callB (r := rSum K) (cr_sum rfl) (by rfl) (T.free "sum") (by decide +kernel) (pa_cons
            (pe_lc (wi := iEnum K (tCons (tVar 1) tNil)) (own := [("at", 4), ("cell", 5)]) (g := gTup K 2 (gCons (gName 4) (gCons (gName 5) gNil))) (tt := tYes) rfl nd (pi_enum rfl (T.free "enumerate") (pa_cons (pv 1) pa_nil)) (blkOk_by (N := nmVals) (sc := relS (lcScope (arg0 (retE2 (defBody (top 39))))) (defScope (top 39))) (by decide +kernel))
              (fun _ _ _ _ _ => pg_tup (by rfl) (pgs_cons (pg_name (i := 4) nd rfl (.inl rfl)) (pgs_cons (pg_name (i := 5) nd rfl (.inl rfl)) pgs_nil))) (fun _ _ _ _ _ => pts_nil)
              (fun _ _ _ _ _ => pe_op op_shlN (pe_ix (r := rIxT K) ix_tup (pv 5) (pv 3) (fun _ _ => rfl)) (pv 4))) pa_nil))) pa_nil)))), ?_⟩
    have hbl : bs.length = L.length := hp.length
    -- digits
    refine ⟨_, rfl, r, rfl, ⟨_, SqT.of hr0⟩, fun D hD => ?_⟩
    refine lc_tup (K := K) (a := r) (xs := bs.map V.ref) (fun i H' => ∃ ts : List Addr, Same H H' ∧ H' D = some (.lst (ts.map V.ref)) ∧ Paired (fun t (l : Letter) => H t = some (.tup (l.1.map V.int))) ts (L.take i)) ⟨[], same_upd hD, upd_same, .nil⟩ (fun i H' _ h => by obtain ⟨_, h, _⟩ := h; exact SqT.of (h _ _ hr0)) ?_ ?_
    · rintro i x H' hi ⟨ts, s1, g1, hts⟩
      obtain ⟨b, hb, rfl⟩ : ∃ t, bs[i]? = some t ∧ x = V.ref t := by
        rw [List.getElem?_map] at hi
        cases e : bs[i]? with
        | none => rw [e] at hi; cases hi
        | some t => rw [e] at hi; exact ⟨t, rfl, (Option.some.inj hi).symm⟩
      obtain ⟨l, hl, t, hbt, htt⟩ := paired_get hp hb
      have eo : L.take (i + 1) = L.take i ++ [l] := by rw [List.take_add_one, hl] <;> rfl
      have htl : ts.length ≤ 60 := by
        have h1 : ts.length = (L.take i).length := hts.length
        rw [List.length_take] at h1
        omega
      refine ⟨rfl, _, rfl, b, _, 0, _, rfl, rfl, SqT.of (s1 _ _ hbt), atI_nat (j := 0) rfl, _, g1, by rw [List.length_map]; exact small1000 (by omega), ts ++ [t], same_new s1 hD, by rw [upd_same, List.map_append] <;> rfl, ?_⟩
      rw [eo]
      exact paired_snoc hts htt
    rintro H1 ⟨ts, s1, g1, hts⟩
    rw [List.length_map, hbl, List.take_length] at hts
    have htl : ts.length = L.length := hts.length
    obtain ⟨l0, hl0⟩ : ∃ l, L[0]? = some l := ⟨L[0], List.getElem?_eq_getElem h0⟩
    obtain ⟨t0, ht0⟩ : ∃ t, ts[0]? = some t := ⟨ts[0], List.getElem?_eq_getElem (by omega)⟩
    obtain ⟨l0', hl0', htt0⟩ := paired_get hts ht0
    rw [hl0] at hl0'
    cases hl0'
    have hl0m := (hbit l0 (List.mem_of_getElem? hl0)).1
    -- range(len(digits[0]))
    refine ⟨_, rfl, D, _, 0, _, rfl, rfl, SqL.of g1, atI_nat (j := 0) (by rw [List.getElem?_map, ht0] <;> rfl), t0, _, rfl, .inr (SqT.of (s1 _ _ htt0)), _, rfl, by omega, by rw [List.length_map]; omega, fun D2 hD2 => ?_⟩
    have en : ((((l0.1.map V.int).length : Nat) : Int)).toNat = m := by rw [List.length_map]; omega
    refine lc_range (lo := 0) (n := ((((l0.1.map V.int).length : Nat) : Int)).toNat) (fun i H' => Same H1 H' ∧ H' D2 = some (.lst ((numsOf L i).map V.int))) ⟨same_upd hD2, upd_same⟩ ?_ ?_
    · rintro p H' hpi ⟨s2, g2⟩
      rw [en] at hpi
      rw [Int.zero_add]
      refine ⟨rfl, _, rfl, D, _, rfl, SqL.of (s2 _ _ g1), fun D3 hD3 => ?_⟩
      refine lc_it (walk_enum (K := K) (a := D) (xs := ts.map V.ref)) (fun i H3 => ∃ ms : List Int, Same H' H3 ∧ H3 D3 = some (.lst (ms.map V.int)) ∧ ms.length ≤ i ∧ ms.sum = numAt p 0 (L.take i)) ⟨[], same_upd hD3, upd_same, Nat.le_refl _, rfl⟩ (fun i H3 _ h => by obtain ⟨_, h, _⟩ := h; exact SqL.of (h _ _ (s2 _ _ g1))) ?_ ?_
      · rintro i x H3 H'' hi ⟨ms, s3, g3, hml, hms⟩ ⟨T', y1, y2, rfl, hT, rfl, h1, h2⟩
        cases h1
        have h2 : (ts.map V.ref)[i]? = some y2 := h2
        rw [List.length_map] at hi
        obtain ⟨t, htx, rfl⟩ : ∃ t, ts[i]? = some t ∧ y2 = V.ref t := by
          rw [List.getElem?_map] at h2
          cases e : ts[i]? with
          | none => rw [e] at h2; cases h2
          | some t => rw [e] at h2; exact ⟨t, rfl, (Option.some.inj h2).symm⟩
        obtain ⟨l, hl, htt⟩ := paired_get hts htx
        obtain ⟨hlm, hd⟩ := hbit l (List.mem_of_getElem? hl)
        have eo : L.take (i + 1) = L.take i ++ [l] := by rw [List.take_add_one, hl] <;> rfl
        have etl : (L.take i).length = i := by rw [List.length_take]; omega
        have S4 := same_upd (o := .tup [.int (i : Nat), .ref t]) hT
        have gT := upd_same (H := H3) (a := T') (o := .tup [.int (i : Nat), .ref t])
        have s34 := s3.trans S4
        have g4 := S4 _ _ g3
        generalize upd H3 T' (.tup [.int (i : Nat), .ref t]) = H4 at S4 gT s34 g4 ⊢
        have hpl : p < l.1.length := by omega
        have hat : atI (l.1.map V.int) ((p : Nat) : Int) = some (.int (l.1.getD p 0)) := atI_nat (by rw [List.getElem?_map, List.getElem?_eq_getElem hpl, List.getD_eq_getElem?_getD, List.getElem?_eq_getElem hpl] <;> rfl)
        have hd01 : (l.1.getD p 0).natAbs < 2 ^ 2 := by
          rw [List.getD_eq_getElem?_getD, List.getElem?_eq_getElem hpl]
          rcases hd _ (List.getElem_mem hpl) with e | e
          · show (l.1[p]).natAbs < 4
            rw [e]
            decide
          · show (l.1[p]).natAbs < 4
            rw [e]
            decide
        refine ⟨T', _, rfl, SqT.of gT, rfl, _, _, rfl, _, _, rfl, rfl, rfl, ?_⟩
        refine ⟨_, rfl, _, rfl, t, _, _, _, rfl, rfl, SqT.of (s34 _ _ (s2 _ _ (s1 _ _ htt))), hat, _, rfl, _, i, rfl, rfl, shl_ok hd01 (by omega), _, g4, by rw [List.length_map]; exact small1000 (by omega), ms ++ [l.1.getD p 0 * 2 ^ i], same_new s34 hD3, by rw [upd_same, List.map_append] <;> rfl, by rw [List.length_append, List.length_singleton]; omega, ?_⟩
        rw [eo, numAt_snoc, etl, List.sum_append, hms, Nat.zero_add]
        show _ + (_ + 0) = _
        omega
      rintro H3 ⟨ms, s3, g3, hml, hms⟩
      rw [List.length_map, htl, List.take_length] at hms
      refine ⟨D3, ms, rfl, SqL.of g3, _, s3 _ _ g2, ?_, same_new (s2.trans s3) hD2, ?_⟩
      · rw [List.length_map]
        unfold TgM.numsOf
        rw [List.length_map, List.length_range]
        exact small1000 (by omega)
      · rw [upd_same, hms]
        unfold TgM.numsOf
        rw [List.range_succ, List.map_append, List.map_append]
        rfl
    rintro H2 ⟨s2, g2⟩
    rw [en] at g2
    exact ⟨D2, _, rfl, .inl ⟨SqL.of g2, fun t ht => go _ t ((s1.trans s2).trans (same_upd ht)) upd_same⟩⟩
/-! steps_told -/
abbrev nmSteps : List Str := ["program", "rows", "row"]
structure RowSpec (H : Hp) (r : Addr) (L : List Letter) (m : Nat) : Prop where
  at_ : RowAt H r L
  bit : BitRow m L
  pos : 0 < L.length
  le : L.length ≤ 60
  m10 : m ≤ 10
theorem scSteps : FnScope nmSteps ["program", "rows"] (defScope (top 40)) := ⟨rfl, rfl, rfl, by decide +kernel, rfl, by decide +kernel, by decide +kernel⟩
/-- a list of four rows, or none -/
def spSteps4 : Sp := fun vs H Q _ => ∃ (pv : V) (a r0 r1 r2 r3 : Addr) (L1 L3 : List Letter) (m : Nat), vs = [pv, .ref a] ∧ H a = some (.lst [.ref r0, .ref r1, .ref r2, .ref r3]) ∧ RowSpec H r1 L1 m ∧ RowSpec H r3 L3 m ∧
  ∀ (H' : Hp) (t t1 t3 : Addr), Same H H' → H' t = some (.tup [.ref t1, .ref t3]) → H' t1 = some (.tup ((numsOf L1 m).map V.int)) → H' t3 = some (.tup ((numsOf L3 m).map V.int)) → Q (.ref t) H'
def spSteps0 : Sp := fun vs H Q _ => ∃ (pv : V) (a : Addr), vs = [pv, .ref a] ∧ H a = some (.lst []) ∧ ∀ (H' : Hp) (t : Addr), Same H H' → H' t = some (.tup []) → Q (.ref t) H'
def spSteps1 : Sp := fun vs H Q _ => ∃ (pv : V) (a : Addr) (y : V), vs = [pv, .ref a] ∧ H a = some (.tup [y]) ∧ ∀ (H' : Hp) (t : Addr), Same H H' → H' t = some (.tup []) → Q (.ref t) H'
theorem ok_steps4 (T : Txt K mg w) : Cal P w K mg base 2 "steps_told" spSteps4 := by
  refine cal_of (N := nmSteps) (ps := ["program", "rows"]) (T.d 16) scSteps (fun _ _ _ _ _ _ us hl => match us, hl with | [_, _], _ => rfl) (fun vs H Q E h => ?_) (fun f0 cdv A outer s H vs Q E hr h => ?_)
  · obtain ⟨x, a, r0, r1, r2, r3, L1, L3, m, rfl, _⟩ := h
    rfl
  · obtain ⟨x, a, r0, r1, r2, r3, L1, L3, m, rfl, ha, R1, R3, go⟩ := h
    have nd := scSteps.nd
    refine ⟨_, pss_one (ps_ret (pe_callTy (r := rTupOf K) (call_tupleK rfl) (by rfl) (T.free "tuple") (by decide +kernel) (pa_cons
      (pe_lc (own := [("row", 2)]) (g := gName 2) (tt := tYes) rfl nd (pi_list (pe_oddL (pv 1))) (blkOk_by (N := nmSteps) (sc := defScope (top 40)) (by decide +kernel))
        (fun _ _ _ _ _ => pg_name (i := 2) nd rfl (.inl rfl)) (fun _ _ _ _ _ => pts_nil) (fun _ _ _ _ _ => pe_c (ok_vals T) hr (by decide) (pa_cons (pv 2) pa_nil))) pa_nil))), ?_⟩
    refine ⟨_, rfl, a, _, _, rfl, SqL.of ha, .four _ _ _ _, fun b hb => ?_⟩
    have S1 := same_upd (o := .lst [.ref r1, .ref r3]) hb
    have g1 := upd_same (H := H) (a := b) (o := .lst [.ref r1, .ref r3])
    generalize upd H b (.lst [.ref r1, .ref r3]) = H1 at S1 g1 ⊢
    refine ⟨b, rfl, ⟨_, SqL.of g1⟩, fun D hD => ?_⟩
    refine lc_list (K := K) (a := b) (xs := [.ref r1, .ref r3]) (fun i H' => ∃ ts : List Addr, Same H1 H' ∧ H' D = some (.lst (ts.map V.ref)) ∧ ts.length ≤ 2 ∧ Paired (fun t (L : List Letter) => H' t = some (.tup ((numsOf L m).map V.int))) ts ([L1, L3].take i)) ⟨[], same_upd hD, upd_same, by decide, .nil⟩ (fun i H' _ h => by obtain ⟨_, h, _⟩ := h; exact SqL.of (h _ _ g1)) ?_ ?_
    · rintro i x H' hi ⟨ts, s1, g2, htl, hts⟩
      obtain ⟨r, L, hxr, hL, RL, htl1⟩ : ∃ (r : Addr) (L : List Letter), x = .ref r ∧ [L1, L3][i]? = some L ∧ RowSpec H r L m ∧ i < 2 := by
        match i, hi with
        | 0, hi => exact ⟨r1, L1, (Option.some.inj hi).symm, rfl, R1, by decide⟩
        | 1, hi => exact ⟨r3, L3, (Option.some.inj hi).symm, rfl, R3, by decide⟩
        | i + 2, hi => simp at hi
      subst hxr
      have eo : [L1, L3].take (i + 1) = [L1, L3].take i ++ [L] := by rw [List.take_add_one, hL] <;> rfl
      have hti : ts.length = i := by
        have h1 : ts.length = ([L1, L3].take i).length := hts.length
        rw [List.length_take] at h1
        have h2 : [L1, L3].length = 2 := rfl
        omega
      refine ⟨rfl, _, rfl, r, L, m, rfl, (RL.at_.same S1).same s1, RL.bit, RL.pos, RL.le, RL.m10, fun H2 t s2 ht => ?_⟩
      have gD := s2 _ _ g2
      refine ⟨_, gD, by rw [List.length_map]; exact small1000 (by omega), ts ++ [t], same_new (s1.trans s2) hD, by rw [upd_same, List.map_append] <;> rfl, by rw [List.length_append, List.length_singleton]; omega, ?_⟩
      rw [eo]
      refine paired_snoc (L2.Paired.mapP hts fun _ _ z => ?_) ?_
      · rw [upd_ne (ne_of (s2 _ _ z) gD (by intro z; cases z))]
        exact s2 _ _ z
      · rw [upd_ne (ne_of ht gD (by intro z; cases z))]
        exact ht
    rintro H2 ⟨ts, s2, g2, _, hts⟩
    have hts : Paired (fun t (L : List Letter) => H2 t = some (.tup ((numsOf L m).map V.int))) ts [L1, L3] := hts
    cases hts with
    | cons h1 hts => cases hts with
      | cons h3 hts =>
        cases hts
        exact ⟨D, _, rfl, .inl ⟨SqL.of g2, fun t ht => go _ t _ _ ((S1.trans s2).trans (same_upd ht)) upd_same (same_upd ht _ _ h1) (same_upd ht _ _ h3)⟩⟩
theorem ok_steps0 (T : Txt K mg w) : Cal P w K mg base 2 "steps_told" spSteps0 := by
  refine cal_of (N := nmSteps) (ps := ["program", "rows"]) (T.d 16) scSteps (fun _ _ _ _ _ _ us hl => match us, hl with | [_, _], _ => rfl) (fun vs H Q E h => ?_) (fun f0 cdv A outer s H vs Q E hr h => ?_)
  · obtain ⟨x, a, rfl, _⟩ := h
    rfl
  · obtain ⟨x, a, rfl, ha, go⟩ := h
    have nd := scSteps.nd
    refine ⟨_, pss_one (ps_ret (pe_callTy (r := rTupOf K) (call_tupleK rfl) (by rfl) (T.free "tuple") (by decide +kernel) (pa_cons
      (pe_lc (own := [("row", 2)]) (g := gName 2) (tt := tYes) rfl nd (pi_list (pe_oddL (pv 1))) (blkOk_by (N := nmSteps) (sc := defScope (top 40)) (by decide +kernel))
        (fun _ _ _ _ _ => pg_name (i := 2) nd rfl (.inl rfl)) (fun _ _ _ _ _ => pts_nil) (fun _ _ _ _ _ => pe_c (ok_vals T) hr (by decide) (pa_cons (pv 2) pa_nil))) pa_nil))), ?_⟩
    refine ⟨_, rfl, a, _, _, rfl, SqL.of ha, .none, fun b hb => ?_⟩
    have S1 := same_upd (o := .lst []) hb
    have g1 := upd_same (H := H) (a := b) (o := .lst [])
    generalize upd H b (.lst []) = H1 at S1 g1 ⊢
    refine ⟨b, rfl, ⟨_, SqL.of g1⟩, fun D hD => ?_⟩
    refine lc_list (K := K) (a := b) (xs := []) (fun i H' => Same H1 H' ∧ H' D = some (.lst [])) ⟨same_upd hD, upd_same⟩ (fun i H' _ h => SqL.of (h.1 _ _ g1)) ?_ ?_
    · rintro i x H' hi _
      simp at hi
    rintro H2 ⟨s2, g2⟩
    exact ⟨D, _, rfl, .inl ⟨SqL.of g2, fun t ht => go _ t ((S1.trans s2).trans (same_upd ht)) upd_same⟩⟩
theorem ok_steps1 (T : Txt K mg w) : Cal P w K mg base 2 "steps_told" spSteps1 := by
  refine cal_of (N := nmSteps) (ps := ["program", "rows"]) (T.d 16) scSteps (fun _ _ _ _ _ _ us hl => match us, hl with | [_, _], _ => rfl) (fun vs H Q E h => ?_) (fun f0 cdv A outer s H vs Q E hr h => ?_)
  · obtain ⟨x, a, y, rfl, _⟩ := h
    rfl
  · obtain ⟨x, a, y, rfl, ha, go⟩ := h
    have nd := scSteps.nd
    refine ⟨_, pss_one (ps_ret (pe_callTy (r := rTupOf K) (call_tupleK rfl) (by rfl) (T.free "tuple") (by decide +kernel) (pa_cons
      (pe_lc (own := [("row", 2)]) (g := gName 2) (tt := tYes) rfl nd (pi_tup (pe_oddT (pv 1))) (blkOk_by (N := nmSteps) (sc := defScope (top 40)) (by decide +kernel))
        (fun _ _ _ _ _ => pg_name (i := 2) nd rfl (.inl rfl)) (fun _ _ _ _ _ => pts_nil) (fun _ _ _ _ _ => pe_c (ok_vals T) hr (by decide) (pa_cons (pv 2) pa_nil))) pa_nil))), ?_⟩
    refine ⟨_, rfl, a, _, rfl, SqT.of ha, fun b hb => ?_⟩
    have S1 := same_upd (o := .tup []) hb
    have g1 := upd_same (H := H) (a := b) (o := .tup [])
    generalize upd H b (.tup []) = H1 at S1 g1 ⊢
    refine ⟨b, rfl, ⟨_, SqT.of g1⟩, fun D hD => ?_⟩
    refine lc_tup (K := K) (a := b) (xs := []) (fun i H' => Same H1 H' ∧ H' D = some (.lst [])) ⟨same_upd hD, upd_same⟩ (fun i H' _ h => SqT.of (h.1 _ _ g1)) ?_ ?_
    · rintro i x H' hi _
      simp at hi
    rintro H2 ⟨s2, g2⟩
    exact ⟨D, _, rfl, .inl ⟨SqL.of g2, fun t ht => go _ t ((S1.trans s2).trans (same_upd ht)) upd_same⟩⟩
end
end Tg

-- part KV
set_option Elab.async false
set_option linter.all false
set_option maxRecDepth 100000
set_option maxHeartbeats 4000000
namespace Tg
open PySem PySem.Spec PyProof.Rows L2 TgM
theorem pe_nev {X : Cx} {e : Expr} : PE X e (fun _ _ _ => False) := ⟨fun _ _ _ _ _ _ h => h.elim⟩
theorem pi_or {X : Cx} {tg l : Expr} {a b : TI} (h : PI X tg l a) (h' : PI X tg l b) : PI X tg l (fun σ H R => a σ H R ∨ b σ H R) := ⟨fun pins s σ H R I q => by
  rcases q with q | q
  · exact h.run pins s σ H R I q
  · exact h'.run pins s σ H R I q⟩
theorem pe_cX {X : Cx} {k j : Nat} {x : Str} {sp : Sp} {p pos : Pos} {e : Expr} {es : List Expr} {t : TA} {E : XK} (c : CalX X.prog X.w X.K X.mg X.base k x sp) (hx : Passes (L2.CX X.prog X.w) X E) (hr : Room j X.A) (hk : k ≤ j) (ha : PA X (e :: es) t) (hg : Gl X x := by rfl)
    (hdb : (x == ("__debug__" : Str)) = false := by decide) (he : starEach (e :: es) X.env = (false, eval e X.env) :: starEach es X.env := by rfl) (hpl : (backTo pos (starEach es X.env)).any (·.1) = false := by rfl) :
    PE X (.Call (.Name x p) (e :: es) [] pos) (tCall sp [] E t) := by
  obtain ⟨f, fd, ps, F, hm, kp, b⟩ := c.ex
  exact pe_call F (hr.mono hk) hg hm kp b .nil hx ha hdb he hpl
section
variable {P : Program} {w : World} {K : PySem.W.Frag} {mg : Str → Option Value} {base : Heap}
/-! BadNumber.__init__ -/
def spBad (K : PySem.W.Frag) : Sp := fun vs H Q _ => ∃ (a : Addr) (v1 v2 : V), vs = [.ref a, v1, v2] ∧ H a = some (exo a (cBad K) none) ∧
  ∀ dx, H dx = none → dx ≠ a → Q .non (upd (upd (upd H dx (exd dx [("what", v1)])) a (exo a (cBad K) (some dx))) dx (exd dx [("number", v2), ("what", v1)]))
theorem scBad : FnScope ["self", "what", "number"] ["self", "what", "number"] (defScope sBadInit) := ⟨rfl, rfl, rfl, by decide +kernel, rfl, by decide +kernel, by decide +kernel⟩
theorem ok_bad (T : Txt K mg w) : ∃ fd, FnOk P w K mg base CX0 1 (He.ma K (cBad K) "__init__") fd ["self", "what", "number"] (spBad K) ∧ Binds K fd ["self", "what", "number"] [] := by
  obtain ⟨fd, F⟩ := T.badI
  refine ⟨fd, F.ok scBad (fun vs H Q E h => ?_) (fun cdv A outer s H vs Q E hr h => ?_), F.bindsN (fun _ _ _ _ _ _ us hl => match us, hl with | [_, _, _], _ => rfl)⟩
  · obtain ⟨a, v1, v2, rfl, _⟩ := h
    rfl
  · obtain ⟨a, v1, v2, rfl, ha, go⟩ := h
    suffices h : ∃ t, PSs (cxOf CX0 P w K mg base ["self", "what", "number"] "BadNumber.__init__" (defScope sBadInit) (He.ma K (cBad K) "__init__") cdv A outer s H E).nox (defBody sBadInit) t ∧ t { nx := fun _ H' => Q .non H', rt := Q } (start ["self", "what", "number"] [.ref a, v1, v2]) H by
      obtain ⟨t, ht, q⟩ := h
      exact ⟨t, ht.nox, q⟩
    have nB : ∀ f : Str, ([("what" : Str), ("number" : Str)] : List Str).contains f = true → PySem.W.findIn K (.ref (cBad K)) f = some none := fun f hf => T.badN f (List.contains_iff_mem.mp hf)
    refine ⟨_, pss_cons (ps_ost (pv 0) (pv 1)) (pss_one (ps_ost (pv 0) (pv 2))), ?_⟩
    refine ⟨_, rfl, _, rfl, a, cBad K, rfl, T.badO, nB "what" (by decide +kernel), .inl ⟨ha, fun dx hdx hne => ?_⟩⟩
    refine ⟨_, rfl, _, rfl, a, cBad K, rfl, T.badO, nB "number" (by decide +kernel), .inr ⟨dx, [("what", v1)], upd_same, by rw [upd_ne hne]; exact upd_same, by show 1 ≤ 900; decide, ?_⟩⟩
    exact go dx hdx hne
/-! need_values -/
structure ProgAt (K : PySem.W.Frag) (H : Hp) (p : Addr) (rs cs : List (List Nat)) : Prop where
  ex : ∃ (dx : Addr) (fs : List (Str × V)) (tr tc : Addr), H p = some (.ins (cProg K) dx fs) ∧ fs.lookup ("registers" : Str) = some (.ref tr) ∧ fs.lookup ("colours" : Str) = some (.ref tc) ∧ FzT H tr (rs.map tx) ∧ FzT H tc (cs.map tx)
theorem FzT.same {H H' : Hp} {t : Addr} {ys : List V} (h : FzT H t ys) (s : Same H H') : FzT H' t ys := by
  obtain ⟨o, a, b, c⟩ := h
  exact ⟨o, a, b, s _ _ c⟩
theorem ProgAt.same {H H' : Hp} {p : Addr} {rs cs : List (List Nat)} (h : ProgAt K H p rs cs) (s : Same H H') : ProgAt K H' p rs cs := by
  obtain ⟨dx, fs, tr, tc, h1, h2, h3, h4, h5⟩ := h.ex
  exact ⟨dx, fs, tr, tc, s _ _ h1, h2, h3, h4.same s, h5.same s⟩
def numOk (v : Int) : Prop := 0 ≤ v ∧ v < 1099511627776
inductive NVal (H : Hp) (n : Nat) : V → Option (List Int) → Prop where
  | lst {t : Addr} {ns : List Int} (h : H t = some (.lst (ns.map V.int))) (hl : ns.length = n) (hv : ∀ v ∈ ns, numOk v) : NVal H n (.ref t) (some ns)
  | tup {t : Addr} {ns : List Int} (h : H t = some (.tup (ns.map V.int))) (hl : ns.length = n) (hv : ∀ v ∈ ns, numOk v) : NVal H n (.ref t) (some ns)
  | non : NVal H n .non none
  | long {t : Addr} {xs : List V} (h : H t = some (.tup xs)) (hl : xs.length ≠ n) : NVal H n (.ref t) none
  | bad {t : Addr} {y : V} {ns : List Int} (h : H t = some (.tup (y :: ns.map V.int))) (hl : ns.length + 1 = n) (hv : ∀ v ∈ ns, numOk v) (hy : y = .int (-1) ∨ y = .int 1099511627776 ∨ y = .str "1") : NVal H n (.ref t) none
/-- the way out with the wrong value x -/
def BadOut (K : PySem.W.Frag) (H : Hp) (x : V) (E : XK) : Prop := ∀ (H' : Hp) (d : Addr), Same H H' → H d = none → H' d = some (.xd [("number", x), ("what", .str "values")]) → E (.ref (cBad K)) (some d) H'
theorem bad_end {H H1 : Hp} {a dx : Addr} {x : V} {E : XK} (s : Same H H1) (ha : H1 a = none) (hdx : upd H1 a (exo a (cBad K) none) dx = none) (hne : dx ≠ a) (go : BadOut K H x E) :
    ∃ (d : Addr) (fs : List (Str × V)), upd (upd (upd (upd H1 a (exo a (cBad K) none)) dx (exd dx [("what", .str "values")])) a (exo a (cBad K) (some dx))) dx (exd dx [("number", x), ("what", .str "values")]) a = some (exo a (cBad K) (some d)) ∧
      upd (upd (upd (upd H1 a (exo a (cBad K) none)) dx (exd dx [("what", .str "values")])) a (exo a (cBad K) (some dx))) dx (exd dx [("number", x), ("what", .str "values")]) d = some (exd d fs) ∧ H1 d = none ∧
      E (.ref (cBad K)) (some d) (upd (del (upd (upd (upd (upd H1 a (exo a (cBad K) none)) dx (exd dx [("what", .str "values")])) a (exo a (cBad K) (some dx))) dx (exd dx [("number", x), ("what", .str "values")])) a) d (.xd fs)) := by
  have hdx1 : H1 dx = none := by rw [upd_ne hne] at hdx; exact hdx
  refine ⟨dx, _, by rw [upd_ne hne.symm, upd_same], upd_same, hdx1, go _ dx (fun b o e => ?_) ?_ upd_same⟩
  · have e1 := s _ _ e
    have n1 : b ≠ a := ne_of_none e1 ha
    have n2 : b ≠ dx := ne_of_none e1 hdx1
    rw [upd_ne n2, del_ne n1, upd_ne n2, upd_ne n1, upd_ne n2, upd_ne n1]
    exact e1
  · cases e : H dx with
    | none => rfl
    | some o =>
      rw [s _ _ e] at hdx1
      cases hdx1
def okV : V → Bool
  | .int v => decide (0 ≤ v) && decide (v < 1099511627776)
  | _ => false
abbrev nmNeed : List Str := ["program", "values", "value"]
def spNeedV (K : PySem.W.Frag) : Sp := fun vs H Q E => ∃ (p : Addr) (x : V) (rs cs : List (List Nat)) (o : Option (List Int)), vs = [.ref p, x] ∧ ProgAt K H p rs cs ∧ NVal H rs.length x o ∧ rs.length ≤ 3 ∧
  (∀ ns, o = some ns → ∀ (H' : Hp) (t : Addr), Same H H' → H' t = some (.tup (ns.map V.int)) → Q (.ref t) H') ∧ (o = none → BadOut K H x E)
theorem scNeedV : FnScope nmNeed ["program", "values"] (defScope (top 26)) := ⟨rfl, rfl, rfl, by decide +kernel, rfl, by decide +kernel, by decide +kernel⟩
theorem ok_needv (T : Txt K mg w) : CalX P w K mg base 3 "need_values" (spNeedV K) := by
  refine calX_of (N := nmNeed) (ps := ["program", "values"]) (T.d 13) scNeedV (fun _ _ _ _ _ _ us hl => match us, hl with | [_, _], _ => rfl) (fun vs H Q E h => ?_) (fun f0 cdv A outer s H vs Q E hr h => ?_)
  · obtain ⟨p, x, rs, cs, o, rfl, _⟩ := h
    rfl
  · obtain ⟨p, x, rs, cs, o, rfl, pr, hx, hr3, goQ, goE⟩ := h
    have nd := scNeedV.nd
    obtain ⟨fdB, FB, bB⟩ := ok_bad (P := P) (base := base) T
    obtain ⟨tg, hgr⟩ := T.great
    have nA : ∀ f : Str, ([("text" : Str), ("registers" : Str), ("colours" : Str), ("orders" : Str)] : List Str).contains f = true → NoAttr K (cProg K) f := fun f hf => T.progN f (List.contains_iff_mem.mp hf)
    refine ⟨_, C8.pss_cut (ps_if (PW.pt (pw_or (pt_not (pt_val (pe_c (ok_listy T) hr (by decide) (pa_cons (pv 1) pa_nil)))) (pw_or1 (pt_cmpR op_ne (pe_callB call_len_seq (by rfl) (T.free "len") PySem.boot_len (pa_cons (pv 1) pa_nil)) (pe_callB call_len_seq (by rfl) (T.free "len") PySem.boot_len (pa_cons (pe_fld (pv 0) rfl) pa_nil)) (nomark _)))))
        (pss_one (ps_raise rfl (takes_of rfl rfl rfl rfl) (pmk_oex T.badO T.badF T.badT FB (hr.mono (by decide)) bB .nil pass0 rfl T.badG (pa_cons pe_str (pa_cons (pv 1) pa_nil))))) pss_nil)
      (pss_cons (ps_if (pt_not (pt_val (pe_callB (cr_all rfl) (by rfl) (T.free "all") (by decide +kernel) (pa_cons
          (pe_lc (own := [("value", 2)]) (g := gName 2) (tt := tYes) rfl nd (pi_or (pi_list (pv 1)) (pi_tup (pv 1))) (blkOk_by (N := nmNeed) (sc := defScope (top 26)) (by decide +kernel))
            (fun _ _ _ _ _ => pg_name (i := 2) nd rfl (.inl rfl)) (fun _ _ _ _ _ => pts_nil)
            (fun _ _ _ _ _ => pe_and (pe_c (ok_count T) hr (by decide) (pa_cons (pv 2) pa_nil)) (pe_one (pe_cmpR op_lt (pv 2) (pe_glob (v := .int 1099511627776) rfl hgr ⟨_, rfl⟩) (nomark _))))) pa_nil))))
        (pss_one (ps_raise rfl (takes_of rfl rfl rfl rfl) (pmk_oex T.badO T.badF T.badT FB (hr.mono (by decide)) bB .nil pass0 rfl T.badG (pa_cons pe_str (pa_cons (pv 1) pa_nil))))) pss_nil)
      (pss_one (ps_ret (pe_callTy (r := rTupOf K) (call_tupleK rfl) (by rfl) (T.free "tuple") (by decide +kernel) (pa_cons (pv 1) pa_nil))))), ?_⟩
    obtain ⟨dx0, fs, tr, tc, hp, hfr, hfc, ftr, ftc⟩ := pr.ex
    refine ⟨fun σ H1 => ∃ (t : Addr) (xs : List V), σ = [some (.ref p), some (.ref t), none] ∧ x = .ref t ∧ Same H H1 ∧ (H1 t = some (.lst xs) ∨ H1 t = some (.tup xs)) ∧ xs.length ≤ 3 ∧
      ((∃ ns, o = some ns ∧ xs = ns.map V.int ∧ ∀ v ∈ ns, numOk v) ∨ (o = none ∧ ∃ (y : V) (ns : List Int), xs = y :: ns.map V.int ∧ (y = .int (-1) ∨ y = .int 1099511627776 ∨ y = .str "1"))), ?_, ?_⟩
    · cases hx with
      | @lst t ns h hl hv =>
        refine ⟨_, rfl, _, true, rfl, .lst h, fun H1 s1 => ⟨true, rfl, iteF ?_⟩⟩
        refine ⟨_, rfl, t, _, rfl, .inl (SqL.of (s1 _ _ h)), _, rfl, p, cProg K, dx0, _, _, rfl, s1 _ _ hp, T.progC, nA "registers" (by decide +kernel), hfr, tr, _, rfl, .inr (ftr.same s1).sq, rfl, _, rfl, iteN ?_ ⟨t, _, rfl, rfl, s1, .inl (s1 _ _ h), by rw [List.length_map]; omega, .inl ⟨ns, rfl, rfl, hv⟩⟩⟩
        rw [List.length_map, List.length_map, hl, decide_eq_true rfl]
        rfl
      | @tup t ns h hl hv =>
        refine ⟨_, rfl, _, true, rfl, .tup h, fun H1 s1 => ⟨true, rfl, iteF ?_⟩⟩
        refine ⟨_, rfl, t, _, rfl, .inr (SqT.of (s1 _ _ h)), _, rfl, p, cProg K, dx0, _, _, rfl, s1 _ _ hp, T.progC, nA "registers" (by decide +kernel), hfr, tr, _, rfl, .inr (ftr.same s1).sq, rfl, _, rfl, iteN ?_ ⟨t, _, rfl, rfl, s1, .inr (s1 _ _ h), by rw [List.length_map]; omega, .inl ⟨ns, rfl, rfl, hv⟩⟩⟩
        rw [List.length_map, List.length_map, hl, decide_eq_true rfl]
        rfl
      | non =>
        refine ⟨_, rfl, _, false, rfl, .non, fun H1 s1 => ⟨false, rfl, iteT (iteT ?_)⟩⟩
        exact ⟨_, rfl, by show 2 ≤ 1000; decide, fun a ha => ⟨a, .str "values", .non, rfl, upd_same, fun dx hdx hne => ⟨rfl, bad_end s1 ha hdx hne (goE rfl)⟩⟩⟩
      | @long t xs h hl =>
        refine ⟨_, rfl, _, true, rfl, .tup h, fun H1 s1 => ⟨true, rfl, iteF ?_⟩⟩
        refine ⟨_, rfl, t, _, rfl, .inr (SqT.of (s1 _ _ h)), _, rfl, p, cProg K, dx0, _, _, rfl, s1 _ _ hp, T.progC, nA "registers" (by decide +kernel), hfr, tr, _, rfl, .inr (ftr.same s1).sq, rfl, _, rfl, iteY ?_ ?_⟩
        · rw [List.length_map, decide_eq_false (fun z => by injection z with z; omega)]
          rfl
        · exact ⟨_, rfl, by show 2 ≤ 1000; decide, fun a ha => ⟨a, .str "values", .ref t, rfl, upd_same, fun dx hdx hne => ⟨rfl, bad_end s1 ha hdx hne (goE rfl)⟩⟩⟩
      | @bad t y ns h hl hv hy =>
        refine ⟨_, rfl, _, true, rfl, .tup h, fun H1 s1 => ⟨true, rfl, iteF ?_⟩⟩
        refine ⟨_, rfl, t, _, rfl, .inr (SqT.of (s1 _ _ h)), _, rfl, p, cProg K, dx0, _, _, rfl, s1 _ _ hp, T.progC, nA "registers" (by decide +kernel), hfr, tr, _, rfl, .inr (ftr.same s1).sq, rfl, _, rfl, iteN ?_ ⟨t, _, rfl, rfl, s1, .inr (s1 _ _ h), by rw [List.length_cons, List.length_map]; omega, .inr ⟨rfl, y, ns, rfl, hy⟩⟩⟩
        rw [List.length_cons, List.length_map, List.length_map, hl, decide_eq_true rfl]
        rfl
    rintro σ H1 ⟨t, xs, rfl, rfl, s1, hseq, hx3, hcase⟩
    have hel : ∀ y ∈ xs, (∃ v : Int, y = .int v) ∨ ∃ z : Str, y = .str z := fun y hy => by
      rcases hcase with ⟨ns, _, rfl, _⟩ | ⟨_, y0, ns, rfl, h⟩
      · obtain ⟨v, _, rfl⟩ := List.mem_map.mp hy
        exact .inl ⟨v, rfl⟩
      · rcases List.mem_cons.mp hy with rfl | hy
        · rcases h with rfl | rfl | rfl
          · exact .inl ⟨_, rfl⟩
          · exact .inl ⟨_, rfl⟩
          · exact .inr ⟨_, rfl⟩
        · obtain ⟨v, _, rfl⟩ := List.mem_map.mp hy
          exact .inl ⟨v, rfl⟩
    have turn : ∀ (D : Addr) (i : Nat) (y : V) (H' : Hp), H1 D = none → xs[i]? = some y → (Same H1 H' ∧ H' D = some (.lst (((xs.take i).map okV).map V.bl))) → ∀ b : Bool, b = okV y → ∃ acc, H' D = some (.lst acc) ∧ acc.length < sizeLine ∧ (Same H1 (upd H' D (.lst (acc ++ [.bl b]))) ∧ upd H' D (.lst (acc ++ [.bl b])) D = some (.lst (((xs.take (i + 1)).map okV).map V.bl))) := fun D i y H' hD hy ⟨s2, g2⟩ b hb => by
      refine ⟨_, g2, ?_, same_new s2 hD, ?_⟩
      · rw [List.length_map, List.length_map, List.length_take]
        exact small1000 (by omega)
      · have eo : xs.take (i + 1) = xs.take i ++ [y] := by rw [List.take_add_one, hy] <;> rfl
        rw [upd_same, eo, List.map_append, List.map_append, hb]
        rfl
    have hall : (xs.map okV).all id = o.isSome := by
      rcases hcase with ⟨ns, rfl, rfl, h⟩ | ⟨rfl, y0, ns, rfl, h⟩
      · rw [List.map_map, List.all_map, List.all_eq_true.mpr]
        · rfl
        · intro v hv
          obtain ⟨a, b⟩ := h v hv
          show (decide (0 ≤ v) && decide (v < 1099511627776)) = true
          rw [decide_eq_true a, decide_eq_true b]
          rfl
      · have h0 : okV y0 = false := by rcases h with rfl | rfl | rfl <;> rfl
        rw [List.map_cons, List.all_cons, h0]
        rfl
    rcases hseq with hs | hs
    · refine .inl ⟨_, rfl, t, rfl, ⟨_, SqL.of hs⟩, fun D hD => ?_⟩
      refine lc_list (K := K) (a := t) (xs := xs) (fun i H' => Same H1 H' ∧ H' D = some (.lst (((xs.take i).map okV).map V.bl))) ⟨same_upd hD, upd_same⟩ (fun i H' _ h => SqL.of (h.1 _ _ hs)) ?_ ?_
      · rintro i y H' hi inv
        rcases hel y (List.mem_of_getElem? hi) with ⟨v, rfl⟩ | ⟨z, rfl⟩
        · refine ⟨rfl, _, rfl, .int v, decide (0 ≤ v), rfl, .int v, decide (0 ≤ v), rfl, ?_⟩
          by_cases h0 : 0 ≤ v
          · rw [decide_eq_true h0]
            refine iteT ⟨_, rfl, _, _, rfl, rfl, turn D i _ H' hD hi inv _ ?_⟩
            show _ = (decide (0 ≤ v) && decide (v < 1099511627776))
            rw [decide_eq_true h0]
            rfl
          · rw [decide_eq_false h0]
            refine iteF (turn D i _ H' hD hi inv _ ?_)
            show _ = (decide (0 ≤ v) && decide (v < 1099511627776))
            rw [decide_eq_false h0]
            rfl
        · exact ⟨rfl, _, rfl, .str z, false, rfl, .str z, false, rfl, iteF (turn D i _ H' hD hi inv _ rfl)⟩
      rintro H2 ⟨s2, g2⟩
      rw [List.take_length] at g2
      refine ⟨D, xs.map okV, rfl, SqL.of g2, _, rfl, ?_⟩
      rw [hall]
      rcases hcase with ⟨ns, rfl, hxs, _⟩ | ⟨rfl, _⟩
      · exact iteF ⟨_, rfl, t, _, rfl, .inl ⟨SqL.of (s2 _ _ hs), fun l hl => goQ ns rfl _ l ((s1.trans s2).trans (same_upd hl)) (by rw [hxs]; exact upd_same)⟩⟩
      · exact iteT ⟨_, rfl, by show 2 ≤ 1000; decide, fun a ha => ⟨a, .str "values", .ref t, rfl, upd_same, fun dx hdx hne => ⟨rfl, bad_end (s1.trans s2) ha hdx hne (goE rfl)⟩⟩⟩
    · refine .inr ⟨_, rfl, t, rfl, ⟨_, SqT.of hs⟩, fun D hD => ?_⟩
      refine lc_tup (K := K) (a := t) (xs := xs) (fun i H' => Same H1 H' ∧ H' D = some (.lst (((xs.take i).map okV).map V.bl))) ⟨same_upd hD, upd_same⟩ (fun i H' _ h => SqT.of (h.1 _ _ hs)) ?_ ?_
      · rintro i y H' hi inv
        rcases hel y (List.mem_of_getElem? hi) with ⟨v, rfl⟩ | ⟨z, rfl⟩
        · refine ⟨rfl, _, rfl, .int v, decide (0 ≤ v), rfl, .int v, decide (0 ≤ v), rfl, ?_⟩
          by_cases h0 : 0 ≤ v
          · rw [decide_eq_true h0]
            refine iteT ⟨_, rfl, _, _, rfl, rfl, turn D i _ H' hD hi inv _ ?_⟩
            show _ = (decide (0 ≤ v) && decide (v < 1099511627776))
            rw [decide_eq_true h0]
            rfl
          · rw [decide_eq_false h0]
            refine iteF (turn D i _ H' hD hi inv _ ?_)
            show _ = (decide (0 ≤ v) && decide (v < 1099511627776))
            rw [decide_eq_false h0]
            rfl
        · exact ⟨rfl, _, rfl, .str z, false, rfl, .str z, false, rfl, iteF (turn D i _ H' hD hi inv _ rfl)⟩
      rintro H2 ⟨s2, g2⟩
      rw [List.take_length] at g2
      refine ⟨D, xs.map okV, rfl, SqL.of g2, _, rfl, ?_⟩
      rw [hall]
      rcases hcase with ⟨ns, rfl, hxs, _⟩ | ⟨rfl, _⟩
      · exact iteF ⟨_, rfl, t, _, rfl, .inr ⟨SqT.of (s2 _ _ hs), goQ ns rfl _ t (s1.trans s2) (by rw [← hxs]; exact s2 _ _ hs)⟩⟩
      · exact iteT ⟨_, rfl, by show 2 ≤ 1000; decide, fun a ha => ⟨a, .str "values", .ref t, rfl, upd_same, fun dx hdx hne => ⟨rfl, bad_end (s1.trans s2) ha hdx hne (goE rfl)⟩⟩⟩
end
end Tg

-- part KW
set_option Elab.async false
set_option linter.all false
set_option maxRecDepth 100000
set_option maxHeartbeats 4000000
namespace Tg
open PySem PySem.Spec PyProof.Rows L2 TgM
def retE3 : List Stmt → Expr
  | [_, _, .Return (some e) _] => e
  | _ => .Constant .none 0 ⟨0, 0, 0, 0⟩
def wid (ns : List Int) : Nat := (ns.map width).foldr max 2
theorem wid_2 : ∀ ns : List Int, 2 ≤ wid ns
  | [] => Nat.le_refl _
  | v :: r => Nat.le_trans (wid_2 r) (Nat.le_max_right _ _)
theorem wid_ge : ∀ {ns : List Int} {v : Int}, v ∈ ns → width v ≤ wid ns
  | u :: r, v, h => by
    rcases List.mem_cons.mp h with rfl | h
    · exact Nat.le_max_left _ _
    · exact Nat.le_trans (wid_ge h) (Nat.le_max_right _ _)
theorem wid_in : ∀ ns : List Int, wid ns = 2 ∨ wid ns ∈ ns.map width
  | [] => .inl rfl
  | v :: r => by
    show max (width v) (wid r) = 2 ∨ max (width v) (wid r) ∈ _
    rcases Nat.le_total (width v) (wid r) with h | h
    · rw [Nat.max_eq_right h]
      rcases wid_in r with e | e
      · exact .inl e
      · exact .inr (List.mem_cons_of_mem _ e)
    · rw [Nat.max_eq_left h]
      exact .inr List.mem_cons_self
theorem wid_le {ns : List Int} {n : Nat} (h2 : 2 ≤ n) (h : ∀ v ∈ ns, width v ≤ n) : wid ns ≤ n := by
  rcases wid_in ns with e | e
  · omega
  · obtain ⟨v, hv, e2⟩ := List.mem_map.mp e
    rw [← e2]
    exact h v hv
theorem wid_max {ns : List Int} {m : Int} (h : m ∈ (2 : Int) :: ns.map fun v => ((width v : Nat) : Int)) (hm : ∀ y ∈ (2 : Int) :: ns.map fun v => ((width v : Nat) : Int), y ≤ m) : m = ((wid ns : Nat) : Int) := by
  have h1 : m ≤ ((wid ns : Nat) : Int) := by
    rcases List.mem_cons.mp h with rfl | h
    · have := wid_2 ns
      omega
    · obtain ⟨v, hv, rfl⟩ := List.mem_map.mp h
      have := wid_ge hv
      omega
  have h2 : ((wid ns : Nat) : Int) ≤ m := by
    rcases wid_in ns with e | e
    · have := hm 2 List.mem_cons_self
      omega
    · obtain ⟨v, hv, e2⟩ := List.mem_map.mp e
      have := hm _ (List.mem_cons_of_mem _ (List.mem_map.mpr ⟨v, hv, rfl⟩))
      omega
  omega
theorem bits_width (v : Int) : Builtin.Int.intBits v = width v := by
  unfold Builtin.Int.intBits width
  by_cases h : v = 0
  · rw [if_pos h, if_pos (by simp [h])]
  · rw [if_neg h, if_neg (by simp [h])]
theorem num_width {v : Int} (h : numOk v) : width v ≤ 40 := width_le h.1 h.2
theorem pe_fldK {X : Cx} {K : PySem.W.Frag} (hK : X.K = K) {e : Expr} {ta : TE} {f : Str} {pos : Pos} (he : PE X e ta) (hb : attributeBase e f X.env (eval e X.env) = eval e X.env) : PE X (.Attribute e f pos) (tFld K ta f) := by
  subst hK
  exact pe_fld he hb
section
variable {P : Program} {w : World} {K : PySem.W.Frag} {mg : Str → Option Value} {base : Heap}
abbrev nmFirst : List Str := ["program", "values", "many", "value", "at"]
def spFirst (K : PySem.W.Frag) : Sp := fun vs H Q E => ∃ (p : Addr) (x : V) (rs cs : List (List Nat)) (c0 : List Nat) (o : Option (List Int)), vs = [.ref p, x] ∧ ProgAt K H p rs cs ∧ cs[0]? = some c0 ∧ NVal H rs.length x o ∧ rs.length ≤ 3 ∧
  (∀ ns, o = some ns → ∀ (H' : Hp) (r : Addr), Same H H' → RowAt H' r (rowOf ns c0 (wid ns)) → Q (.ref r) H') ∧ (o = none → BadOut K H x E)
theorem scFirst : FnScope nmFirst ["program", "values"] (defScope (top 38)) := ⟨rfl, rfl, rfl, by decide +kernel, rfl, by decide +kernel, by decide +kernel⟩
theorem NVal.facts {H : Hp} {n : Nat} {x : V} {ns : List Int} (h : NVal H n x (some ns)) : ns.length = n ∧ ∀ v ∈ ns, numOk v := by
  cases h with
  | lst _ a b => exact ⟨a, b⟩
  | tup _ a b => exact ⟨a, b⟩
theorem ok_first (T : Txt K mg w) : CalX P w K mg base 4 "first_row" (spFirst K) := by
  refine calX_of (N := nmFirst) (ps := ["program", "values"]) (T.d 14) scFirst (fun _ _ _ _ _ _ us hl => match us, hl with | [_, _], _ => rfl) (fun vs H Q E h => ?_) (fun f0 cdv A outer s H vs Q E hr h => ?_)
  · obtain ⟨p, x, rs, cs, c0, o, rfl, _⟩ := h
    rfl
  · obtain ⟨p, x, rs, cs, c0, o, rfl, pr, hc0, hx, hr3, goQ, goE⟩ := h
    have nd := scFirst.nd
    have nA : ∀ f : Str, ([("text" : Str), ("registers" : Str), ("colours" : Str), ("orders" : Str)] : List Str).contains f = true → NoAttr K (cProg K) f := fun f hf => T.progN f (List.contains_iff_mem.mp hf)
    refine ⟨_, pss_cons (ps_set (i := 1) nd rfl (.inr rfl) (pe_cX (ok_needv T) (passes_call (takes_of rfl rfl rfl rfl) (fun _ _ _ _ h => h)) hr (by decide) (pa_cons (pv 0) (pa_cons (pv 1) pa_nil))))
      (pss_cons (ps_set (i := 2) nd rfl (.inl rfl) (pe_callB (cr_max rfl) (by rfl) (T.free "max") (by decide +kernel) (pa_cons (pe_op op_cat (pe_lst (pa_cons pe_int pa_nil))
          (pe_lc (own := [("value", 3)]) (g := gName 3) (tt := tYes) rfl nd (pi_tup (pv 1)) (blkOk_by (N := nmFirst) (sc := defScope (top 38)) (by decide +kernel)) (fun _ _ _ _ _ => pg_name (i := 3) nd rfl (.inl rfl)) (fun _ _ _ _ _ => pts_nil) (fun _ _ _ _ _ => pe_bits (pv 3)))) pa_nil)))
      (pss_one (ps_ret (pe_callTy (r := rTupOf K) (call_tupleK rfl) (by rfl) (T.free "tuple") (by decide +kernel) (pa_cons
        (pe_lc (own := [("at", 4)]) (g := gName 4) (tt := tYes) rfl nd (pi_range1 rfl (T.free "range") (pa_cons (pv 2) pa_nil)) (blkOk_by (N := nmFirst) (sc := defScope (top 38)) (by decide +kernel))
          (fun _ _ _ _ _ => pg_name (i := 4) nd rfl (.inr rfl)) (fun _ _ _ _ _ => pts_nil)
          (fun _ _ _ _ _ => pe_tup (pa_cons (pe_callTy (r := rTupOf K) (call_tupleK rfl) (by rfl) (T.free "tuple") (by decide +kernel) (pa_cons
              (pe_lc (wi := iTup K (tVar 1)) (own := [("value", 3)]) (g := gName 3) (tt := tYes) rfl nd (pi_tup (pv 1)) (blkOk_by (N := nmFirst) (sc := relS (lcScope (arg0 (retE3 (defBody (top 38))))) (defScope (top 38))) (by decide +kernel))
                (fun _ _ _ _ _ => pg_name (i := 3) nd rfl (.inl rfl)) (fun _ _ _ _ _ => pts_nil) (fun _ _ _ _ _ => pe_op op_andM (pe_op op_shrN (pv 3) (pv 4)) pe_int)) pa_nil))
            (pa_cons (pe_ix (r := rIxT K) ix_tup (pe_fldK (K := K) rfl (pv 0) rfl) pe_int (fun _ _ => rfl)) pa_nil)))) pa_nil))))), ?_⟩
    refine ⟨_, rfl, _, rfl, p, x, rs, cs, o, rfl, pr, hx, hr3, fun ns ho H1 t s1 ht => ?_, goE⟩
    subst ho
    obtain ⟨hnl, hnv⟩ := hx.facts
    obtain ⟨dx0, fs, tr, tc, hp, hfr, hfc, ftr, ftc⟩ := (pr.same s1).ex
    -- many
    refine ⟨by show 1 ≤ sizeLine; decide, fun b hb => ?_⟩
    have S2 := same_upd (o := .lst [.int 2]) hb
    have gb := upd_same (H := H1) (a := b) (o := .lst [.int 2])
    generalize upd H1 b (.lst [.int 2]) = H2 at S2 gb ⊢
    have ht2 := S2 _ _ ht
    refine ⟨_, rfl, t, rfl, ⟨_, SqT.of ht2⟩, fun D hD => ?_⟩
    refine lc_tup (K := K) (a := t) (xs := ns.map V.int) (fun i H' => Same H2 H' ∧ H' D = some (.lst (((ns.take i).map fun v => ((width v : Nat) : Int)).map V.int))) ⟨same_upd hD, upd_same⟩ (fun i H' _ h => SqT.of (h.1 _ _ ht2)) ?_ ?_
    · rintro i y H' hi ⟨s2, g2⟩
      obtain ⟨v, hv, rfl⟩ := at_int hi
      have eo : ns.take (i + 1) = ns.take i ++ [v] := by rw [List.take_add_one, hv] <;> rfl
      refine ⟨rfl, _, rfl, v, rfl, _, g2, ?_, same_new s2 hD, ?_⟩
      · rw [List.length_map, List.length_map, List.length_take]
        exact small1000 (by omega)
      · rw [eo, List.map_append, upd_same, List.map_append, bits_width]
        rfl
    rintro H3 ⟨s3, g3⟩
    rw [List.length_map, List.take_length] at g3
    refine ⟨b, D, _, _, rfl, rfl, s3 _ _ gb, g3, by rw [List.length_map, List.length_map, sizeLine_eq]; show 1 + ns.length ≤ 16777216; omega, fun l hl => ?_⟩
    have S4 := same_upd (o := .lst ([.int 2] ++ (ns.map fun v => ((width v : Nat) : Int)).map V.int)) hl
    have gl := upd_same (H := H3) (a := l) (o := .lst ([.int 2] ++ (ns.map fun v => ((width v : Nat) : Int)).map V.int))
    have s14 := (S2.trans s3).trans S4
    generalize upd H3 l (.lst ([.int 2] ++ (ns.map fun v => ((width v : Nat) : Int)).map V.int)) = H4 at S4 gl s14 ⊢
    refine ⟨l, (2 : Int) :: ns.map fun v => ((width v : Nat) : Int), rfl, SqL.of gl, by rw [List.length_cons]; omega, fun m hm hmax => ?_⟩
    obtain rfl := wid_max hm hmax
    have hw : wid ns ≤ 40 := wid_le (by decide) fun v hv => num_width (hnv v hv)
    have ht4 := s14 _ _ ht
    -- the row
    refine ⟨_, rfl, ((wid ns : Nat) : Int), rfl, by omega, by omega, fun D2 hD2 => ?_⟩
    refine lc_range (lo := 0) (n := ((wid ns : Nat) : Int).toNat) (fun i H' => ∃ bs : List Addr, Same H4 H' ∧ H' D2 = some (.lst (bs.map V.ref)) ∧ Paired (LetAt H') bs ((List.range i).map fun k => (ns.map fun v => bitOf v k, c0))) ⟨[], same_upd hD2, upd_same, .nil⟩ ?_ ?_
    · rintro i H' hi ⟨bs, s5, g5, hps⟩
      rw [Int.zero_add]
      have hbl : bs.length = i := by
        have h3 : bs.length = ((List.range i).map fun k => (ns.map fun v => bitOf v k, c0)).length := hps.length
        rw [List.length_map, List.length_range] at h3
        exact h3
      refine ⟨rfl, _, rfl, t, rfl, ⟨_, SqT.of (s5 _ _ ht4)⟩, fun D3 hD3 => ?_⟩
      refine lc_tup (K := K) (a := t) (xs := ns.map V.int) (fun j H'' => Same H' H'' ∧ H'' D3 = some (.lst (((ns.take j).map fun v => bitOf v i).map V.int))) ⟨same_upd hD3, upd_same⟩ (fun j H'' _ h => SqT.of (h.1 _ _ (s5 _ _ ht4))) ?_ ?_
      · rintro j y H'' hj ⟨s6, g6⟩
        obtain ⟨v, hv, rfl⟩ := at_int hj
        have eo : ns.take (j + 1) = ns.take j ++ [v] := by rw [List.take_add_one, hv] <;> rfl
        refine ⟨rfl, _, rfl, _, rfl, v, i, rfl, rfl, _, 1, rfl, rfl, _, g6, ?_, same_new s6 hD3, ?_⟩
        · rw [List.length_map, List.length_map, List.length_take]
          exact small1000 (by omega)
        · rw [eo, List.map_append, upd_same, List.map_append]
          rfl
      rintro H5 ⟨s6, g6⟩
      rw [List.length_map, List.take_length] at g6
      refine ⟨D3, _, rfl, .inl ⟨SqL.of g6, fun t2 ht2 => ?_⟩⟩
      have S7 := s6.trans (same_upd (o := .tup ((ns.map fun v => bitOf v i).map V.int)) ht2)
      have gt2 := upd_same (H := H5) (a := t2) (o := .tup ((ns.map fun v => bitOf v i).map V.int))
      generalize upd H5 t2 (.tup ((ns.map fun v => bitOf v i).map V.int)) = H6 at S7 gt2 ⊢
      have s16 := (s14.trans s5).trans S7
      refine ⟨_, rfl, p, cProg K, dx0, _, _, rfl, s16 _ _ hp, T.progC, nA "colours" (by decide +kernel), hfc, tc, _, 0, tx c0, rfl, rfl, (ftc.same s16).sq, atI_nat (j := 0) (by rw [List.getElem?_map, hc0] <;> rfl), by show 2 ≤ sizeLine; decide, fun bb hbb => ?_⟩
      have S8 := same_upd (o := .tup [.ref t2, tx c0]) hbb
      have S78 := S7.trans S8
      have gt := S8 _ _ gt2
      have gbb := upd_same (H := H6) (a := bb) (o := .tup [.ref t2, tx c0])
      have gD := S78 _ _ g5
      refine ⟨_, gD, by rw [List.length_map]; exact small1000 (by omega), bs ++ [bb], same_new (s5.trans S78) hD2, by rw [upd_same, List.map_append] <;> rfl, ?_⟩
      rw [List.range_succ, List.map_append]
      exact paired_snoc (L2.Paired.mapP hps fun _ _ z => (z.same S78).lst gD) (LetAt.lst ⟨t2, gbb, gt⟩ gD)
    rintro H5 ⟨bs, s5, g5, hps⟩
    rw [Int.toNat_natCast] at hps
    exact ⟨D2, _, rfl, .inl ⟨SqL.of g5, fun r hr => goQ ns rfl _ r (((s1.trans s14).trans s5).trans (same_upd hr)) ⟨bs, upd_same, L2.Paired.mapP hps fun _ _ z => z.same (same_upd hr)⟩⟩⟩
/-! sweeps_of: its way out with wrong values -/
abbrev nmSweeps : List Str := ["program", "values", "first", "letters", "begin", "steps", "turns", "waiting", "direction", "state", "letter", "told", "turn"]
def spSweeps (K : PySem.W.Frag) : Sp := fun vs H Q E => ∃ (p : Addr) (x : V) (rs cs : List (List Nat)) (c0 : List Nat), vs = [.ref p, x] ∧ ProgAt K H p rs cs ∧ cs[0]? = some c0 ∧ NVal H rs.length x none ∧ rs.length ≤ 3 ∧ BadOut K H x E
theorem scSweeps : FnScope nmSweeps ["program", "values"] (defScope (top 48)) := ⟨rfl, rfl, rfl, by decide +kernel, rfl, by decide +kernel, by decide +kernel⟩
theorem ok_sweeps (T : Txt K mg w) : CalX P w K mg base 5 "sweeps_of" (spSweeps K) := by
  refine calX_of (N := nmSweeps) (ps := ["program", "values"]) (T.d 17) scSweeps (fun _ _ _ _ _ _ us hl => match us, hl with | [_, _], _ => rfl) (fun vs H Q E h => ?_) (fun f0 cdv A outer s H vs Q E hr h => ?_)
  · obtain ⟨p, x, rs, cs, c0, rfl, _⟩ := h
    rfl
  · obtain ⟨p, x, rs, cs, c0, rfl, pr, hc0, hx, hr3, goE⟩ := h
    have nd := scSweeps.nd
    refine ⟨_, pss_cons (ps_par (i := 2) (j := 3) (by rfl) nd rfl rfl (by decide) rfl rfl (pa_cons (pe_cX (ok_first T) (passes_call (takes_of rfl rfl rfl rfl) (fun _ _ _ _ h => h)) hr (by decide) (pa_cons (pv 0) (pa_cons (pv 1) pa_nil))) (pa_cons pe_nev pa_nil)) (by rfl)) pss_never, ?_⟩
    exact ⟨_, rfl, _, rfl, p, x, rs, cs, c0, none, rfl, pr, hc0, hx, hr3, (fun _ z => by cases z), fun _ => goE⟩
end
end Tg

-- part KX
set_option Elab.async false
set_option linter.all false
set_option maxRecDepth 100000
set_option maxHeartbeats 4000000
namespace Tg
open PySem PySem.Spec PyProof.Rows L2 TgM
/-! ### repr, where no repr is under way -/
def rRep (K : PySem.W.Frag) : List V → Hp → VK → Prop := fun vs H Q => ∃ (x : V) (d : PyData), vs = [x] ∧ (x = .non ∨ ∃ a, x = .ref a) ∧ Dp K H x d ∧ d.showable = true ∧ d.hasDict = false ∧ d.depth ≤ 3 ∧ d.shown.length ≤ sizeLine ∧ Q (.str d.shown) H
theorem call_rep {X : Cx} {K : PySem.W.Frag} (hK : X.K = K) (hg : X.A.guards = some []) (hu : X.A.units + 64 < cLine) : CallR X (.builtin "repr") (rRep K) := by
  subst hK
  intro pins s σ H vs us Q I r h
  obtain ⟨x, d, rfl, hx, hd, hs, hnd, hdp, hz, q⟩ := h
  obtain ⟨u, rfl, ru⟩ := vals1 r
  rcases hx with rfl | ⟨a, rfl⟩
  · cases hd
    obtain rfl : u = Value.none := ru
    exact PySem.P.repr_of_none ⟨.str _, H, I.tok _, ⟨_, rfl⟩, q⟩
  · obtain ⟨as, rd⟩ := Dp.reads I d (.ref a) u hd ru
    obtain rfl : u = Value.ref a := ru
    exact repr_of_reads' rd hs (fun z => by rw [hnd] at z; cases z) hg (by omega) (fun _ _ e => e) (fun h' u tk hk => ⟨.str _, H, I.kept (t' := tk) hk, ⟨_, rfl⟩, q⟩) hz
/-! ### _law_refused -/
/-- what it makes of a lambda that raises BadNumber: ("values", repr(the wrong value)) -/
def TRef (K : PySem.W.Frag) : (XK → Hp → VK → Prop) → Hp → VK → Prop := fun tl H Q => ∀ Qn : VK, tl (fun cls d H' => cls = .ref (cBad K) ∧ ∃ (dd : Addr) (x : V) (D : PyData), d = some dd ∧ H' dd = some (.xd [("number", x), ("what", .str "values")]) ∧
  (x = .non ∨ ∃ a, x = .ref a) ∧ Dp K H' x D ∧ D.showable = true ∧ D.hasDict = false ∧ D.depth ≤ 3 ∧ D.shown.length ≤ sizeLine ∧ ∀ p, H' p = none → Q (.ref p) (upd H' p (.tup [.str "values", .str D.shown]))) H Qn
abbrev nmRef : List Str := ["_law_call", "e"]
theorem scRef : FnScope nmRef ["_law_call"] (defScope (top 67)) := ⟨rfl, rfl, rfl, by decide +kernel, rfl, by decide +kernel, by decide +kernel⟩
theorem takes_len {X : Cx} {W : WX} (tk : Takes X W) : Takes X (fun cls d σ H => σ.length = X.N.length → W cls d σ H) := fun u s' ⟨a, B, sI, pins, σ, H, cls, d, e, I, nb, up, sky, na, os, ag, z⟩ => tk u s' ⟨a, B, sI, pins, σ, H, cls, d, e, I, nb, up, sky, na, os, ag, z I.len⟩
theorem ref_gives {X : Cx} {g : Addr} {cdg : Value} {q : Str} (T : Txt X.K X.mg X.w) (hg : X.A.guards = some []) (hu : X.A.units + 100 < cLine) :
    LamX.GivesTo X nmRef "_law_refused" (defScope (top 67)) g cdg (defBody (top 67)) "_law_call" q (TRef X.K) := by
  intro f c' s H Q tl act hc h
  have nd := scRef.nd
  have nB : ∀ f : Str, ([("what" : Str), ("number" : Str)] : List Str).contains f = true → PySem.W.findIn X.K (.ref (cBad X.K)) f = some none := fun f hf => T.badN f (List.contains_iff_mem.mp hf)
  refine ⟨_, pss_cons (ps_try_as (i := 1) (X := (cxOf C8.CX0 X.prog X.w X.K X.mg X.base nmRef "_law_refused" (defScope (top 67)) g cdg X.A X.stack s H C8.E0).nox) (c := .ref (cBad X.K))
      (tb := fun W D σ H => ∃ Ech : XK, (∀ cls d σ' H', Ech cls d H' → σ'.length = 2 → W cls d σ' H') ∧ σ[0]? = some (some (.ref f)) ∧ H c' = some (LamX.CodeO c' q) ∧ tl Ech H (fun _ H' => D.nx σ H'))
      rfl rfl nd rfl rfl ⟨rfl, by decide, .inl T.badG⟩ LamX.takes0 (fun W pn xe tk _ => ?_) (fun a oe cls d pn hz hf => pss_one (ps_ret (pe_tup (pa_cons (pe_xf T.badX (nB "what" (by decide +kernel)) hz hf (pv 1)) (pa_cons (pe_callB (call_rep rfl hg ?_) (by rfl) (T.free "repr") (by decide +kernel) (pa_cons (pe_xf T.badX (nB "number" (by decide +kernel)) hz hf (pv 1)) pa_nil)) pa_nil)))))) pss_never, ?_⟩
  · refine ⟨fun pins s' σ H' D I h' => ?_⟩
    obtain ⟨Ech, hW, h1, h2, h3⟩ := h'
    exact (pss_one (ps_expr (act (fun cls d σ H => σ.length = 2 → W cls d σ H) pn xe Ech _ _ (takes_len tk) hW))).run pins s' σ H' D I ⟨h1, h2, h3⟩
  · show X.A.units + 3 + 64 < cLine
    omega
  · refine ⟨_, fun cls d σ' H' hE hlen => ?_, rfl, hc, h _⟩
    obtain ⟨rfl, dd, x, D, rfl, hxd, hx, hdp, z1, z2, z3, z4, go⟩ := hE
    refine ⟨true, T.badE, fun _ a _ => ?_, fun z => by cases z⟩
    have hat : (σ'.set 1 (some (.ref a)))[1]? = some (some (.ref a)) := by
      rw [List.getElem?_set_self (by omega)]
    exact ⟨_, hat, rfl, rfl, dd, _, .str "values", rfl, hxd, by kernel_rfl, _, hat, rfl, rfl, dd, _, x, rfl, hxd, by kernel_rfl, x, D, rfl, hx, hdp, z1, z2, z3, z4, by show 2 ≤ sizeLine; decide, go⟩
end Tg

-- part KXd
set_option Elab.async false
set_option linter.all false
set_option maxRecDepth 100000
set_option maxHeartbeats 4000000
namespace Tg
open PySem PySem.Spec PyProof.Rows L2 TgM
/-! ### rows and numbers as data -/
def letPy (l : Letter) : PyData := .tuple [.tuple (l.1.map PyData.int), .str (SX.S l.2)]
def rowPy (L : List Letter) : PyData := .tuple (L.map letPy)
def intsPy (ns : List Int) : PyData := .tuple (ns.map PyData.int)
theorem dp_ints {K : PySem.W.Frag} {H : Hp} : ∀ ns : List Int, DpAll K H (ns.map V.int) (ns.map PyData.int)
  | [] => .nil
  | n :: r => .cons (.int n) (dp_ints r)
theorem dp_tupI {K : PySem.W.Frag} {H : Hp} {t : Addr} {ns : List Int} (h : H t = some (.tup (ns.map V.int))) : Dp K H (.ref t) (intsPy ns) := .tup (SqT.of h) (dp_ints ns)
theorem dp_lets {K : PySem.W.Frag} {H : Hp} : ∀ {bs : List Addr} {L : List Letter}, Paired (LetAt H) bs L → DpAll K H (bs.map V.ref) (L.map letPy)
  | _, _, .nil => .nil
  | _, _, .cons ⟨t, h1, h2⟩ r => .cons (.tup (SqT.of h1) (.cons (dp_tupI h2) (.cons (.str _) .nil))) (dp_lets r)
theorem dp_row {K : PySem.W.Frag} {H : Hp} {r : Addr} {L : List Letter} (h : RowAt H r L) : Dp K H (.ref r) (rowPy L) := by
  obtain ⟨bs, h1, h2⟩ := h
  exact .tup (SqT.of h1) (dp_lets h2)
theorem lay_ints {k : Nat} (ns : List Int) : Lay (k + 1) (intsPy ns) := Lay.tuple fun d hd => by
  obtain ⟨n, _, rfl⟩ := List.mem_map.mp hd
  exact Lay.int n
theorem lay_row {L : List Letter} (h : ∀ l ∈ L, NameL l.2) : Lay 3 (rowPy L) := Lay.tuple fun d hd => by
  obtain ⟨l, hl, rfl⟩ := List.mem_map.mp hd
  refine Lay.tuple fun d hd => ?_
  rcases List.mem_cons.mp hd with rfl | hd
  · exact lay_ints l.1
  · rw [List.mem_singleton.mp hd]
    exact Lay.str (asc_name (h l hl))
theorem Lay.refl {k : Nat} {d : PyData} (h : Lay k d) : PyData.eqv d d = true := SeqAt.eqv_refl d h.1
theorem bits_row (ns : List Int) (c : List Nat) (n : Nat) : BitRow ns.length (rowOf ns c n) := fun l hl => by
  unfold rowOf at hl
  obtain ⟨k, _, rfl⟩ := List.mem_map.mp hl
  refine ⟨by rw [List.length_map], fun d hd => ?_⟩
  obtain ⟨v, _, rfl⟩ := List.mem_map.mp hd
  exact bitOf_01 v k
theorem row_len (ns : List Int) (c : List Nat) (n : Nat) : (rowOf ns c n).length = n := by
  unfold rowOf
  rw [List.length_map, List.length_range]
theorem row_col {ns : List Int} {c : List Nat} {n : Nat} (h : NameL c) : ∀ l ∈ rowOf ns c n, NameL l.2 := fun l hl => by
  unfold rowOf at hl
  obtain ⟨k, _, rfl⟩ := List.mem_map.mp hl
  exact h
theorem rep_flat (x : V) : ∀ n : Nat, (List.replicate n [x]).flatten = List.replicate n x
  | 0 => rfl
  | n + 1 => by
    rw [List.replicate_succ, List.flatten_cons, rep_flat x n]
    rfl
theorem nums_row {ns : List Int} {c : List Nat} (h : ∀ v ∈ ns, numOk v) : TgM.numsOf (rowOf ns c (wid ns)) ns.length = ns := numsOf_row fun v hv => by
  obtain ⟨a, b⟩ := h v hv
  refine ⟨a, ?_⟩
  have h1 := lt_width a
  have h2 : (2 : Int) ^ width v ≤ 2 ^ wid ns := pow_mono2 (wid_ge hv)
  omega
/-! repr's length -/
theorem piled_le (b : Nat) : ∀ ts : List Str, (∀ t ∈ ts, t.length ≤ b) → piled ts ≤ ts.length * (b + 2)
  | [], _ => Nat.zero_le _
  | t :: r, h => by
    have h1 := h t List.mem_cons_self
    have h2 := piled_le b r fun x hx => h x (List.mem_cons_of_mem _ hx)
    rw [piled_cons, List.length_cons, Nat.add_mul, Nat.one_mul]
    omega
def OddP (x : PyData) : Prop := (∃ i : Int, x = .int i ∧ i.natAbs.log2 < 1920) ∨ x = .str ("1" : Str)
theorem odd_shown : ∀ {xs : List PyData}, (∀ x ∈ xs, OddP x) → PyData.showableAll xs = true ∧ PyData.hasDictAll xs = false ∧ PyData.depthAll xs = 0 ∧ ∀ t ∈ PyData.shownAll xs, t.length ≤ 1921
  | [], _ => ⟨rfl, rfl, rfl, fun t h => by rw [PyData.shownAll_nil] at h; exact absurd h List.not_mem_nil⟩
  | x :: r, h => by
    obtain ⟨h1, h2, h3, h4⟩ := odd_shown fun y hy => h y (List.mem_cons_of_mem _ hy)
    have hx : PyData.showable x = true ∧ PyData.hasDict x = false ∧ PyData.depth x = 0 ∧ (PyData.shown x).length ≤ 1921 := by
      rcases h x List.mem_cons_self with ⟨i, rfl, hi⟩ | rfl
      · refine ⟨by simp only [PyData.showable]; exact decide_eq_true hi, by simp only [PyData.hasDict], by simp only [PyData.depth], ?_⟩
        rw [PyData.shown_int]
        exact int_text_len_1921 hi
      · refine ⟨by simp only [PyData.showable], by simp only [PyData.hasDict], by simp only [PyData.depth], ?_⟩
        rw [PyData.shown_str]
        exact Nat.le_trans (StrLaws.reprText_len _ (by decide +kernel)) (by decide +kernel)
    obtain ⟨a, b, c, d⟩ := hx
    refine ⟨by simp only [PyData.showableAll, a, h1, Bool.and_self], by simp only [PyData.hasDictAll, b, h2, Bool.or_self], by simp only [PyData.depthAll, c, h3, Nat.max_self], fun t ht => ?_⟩
    rw [PyData.shownAll_cons] at ht
    rcases List.mem_cons.mp ht with rfl | ht
    · exact d
    · exact h4 t ht
theorem odd_tupD {xs : List PyData} (h : ∀ x ∈ xs, OddP x) (hl : xs.length ≤ 10) : PyData.showable (.tuple xs) = true ∧ PyData.hasDict (.tuple xs) = false ∧ PyData.depth (.tuple xs) ≤ 3 ∧ (PyData.shown (.tuple xs)).length ≤ sizeLine := by
  obtain ⟨h1, h2, h3, h4⟩ := odd_shown h
  refine ⟨by simp only [PyData.showable, h1], by simp only [PyData.hasDict, h2], by simp only [PyData.depth, h3]; omega, ?_⟩
  have e : PyData.shown (.tuple xs) = tupleText (PyData.shownAll xs) := by simp only [PyData.shown]
  rw [e]
  have a1 := fmt_text (PyData.shownAll xs)
  have a2 := piled_le 1921 _ h4
  rw [PyData.shownAll_length] at a2
  have a3 : xs.length * (1921 + 2) ≤ 10 * 1923 := Nat.mul_le_mul_right 1923 hl
  rw [sizeLine_eq]
  omega
theorem odd_none : PyData.showable .none = true ∧ PyData.hasDict .none = false ∧ PyData.depth .none ≤ 3 ∧ (PyData.shown .none).length ≤ sizeLine := by
  refine ⟨by simp only [PyData.showable], by simp only [PyData.hasDict], by simp only [PyData.depth]; omega, ?_⟩
  rw [PyData.shown_none]
  exact Nat.le_trans (show ("None" : Str).length ≤ 4 by decide +kernel) (by decide)
theorem odd_int {i : Int} (h : i.natAbs < 2 ^ 60) : OddP (.int i) := .inl ⟨i, rfl, Nat.lt_trans (Flt.log2_lt_of (by decide) h) (by decide)⟩
theorem ProgAt.sm {K : PySem.W.Frag} {c q : Addr} {n : Nat} {H H' : Hp} {p : Addr} {rs cs : List (List Nat)} (h : ProgAt K H p rs cs) (s : Sm q H H') (pn : PenAt c q n H) : ProgAt K H' p rs cs := by
  obtain ⟨dx, fs, tr, tc, h1, h2, h3, ⟨o4, a4, b4, c4⟩, ⟨o5, a5, b5, c5⟩⟩ := h.ex
  exact ⟨dx, fs, tr, tc, s _ _ (pn.ne h1 (fun _ z => by cases z)) h1, h2, h3, ⟨o4, a4, b4, s _ _ (pn.ne c4 (fun _ z => by cases z)) c4⟩, ⟨o5, a5, b5, s _ _ (pn.ne c5 (fun _ z => by cases z)) c5⟩⟩
theorem LetAt.sm {c q : Addr} {n : Nat} {H H' : Hp} {b : Addr} {l : Letter} (h : LetAt H b l) (s : Sm q H H') (p : PenAt c q n H) : LetAt H' b l := by
  obtain ⟨t, h1, h2⟩ := h
  exact ⟨t, s.tup p h1, s.tup p h2⟩
def BitL (m : Nat) (ds : List Int) : Prop := ds.length = m ∧ ∀ d ∈ ds, d = 0 ∨ d = 1
theorem lay_nil {k : Nat} : Lay (k + 1) (.tuple []) := Lay.tuple fun _ h => absurd h List.not_mem_nil
theorem lay_two {k : Nat} (a b : List Int) : Lay (k + 2) (.tuple [intsPy a, intsPy b]) := Lay.tuple fun d hd => by
  rcases List.mem_cons.mp hd with rfl | hd
  · exact lay_ints a
  · rw [List.mem_singleton.mp hd]
    exact lay_ints b
/-! what repr tells of the odd values -/
def Asc (x : Str) : Prop := ∀ c ∈ x.cps.toList, c < 256
theorem asc_int (i : Int) : Asc (Str.ofString (toString i)) := fun c hc => by
  have e : (Str.ofString (toString i)).cps.toList = (toString i).toList.map Char.toNat := TL.tl_ofString _
  rw [e] at hc
  obtain ⟨d, hd, rfl⟩ := List.mem_map.mp hc
  exact Nat.lt_trans (int_ascii i d hd) (by decide)
theorem asc_app {x y : Str} (hx : Asc x) (hy : Asc y) : Asc (x ++ y) := fun c hc => by
  have e : (x ++ y).cps.toList = x.cps.toList ++ y.cps.toList := TL.tl_append x y
  rw [e] at hc
  rcases List.mem_append.mp hc with hc | hc
  · exact hx c hc
  · exact hy c hc
theorem joinL_mem {s : List Nat} {c : Nat} : ∀ {ls : List (List Nat)}, c ∈ TL.joinL s ls → c ∈ s ∨ ∃ l ∈ ls, c ∈ l
  | [], h => absurd h List.not_mem_nil
  | [l], h => .inr ⟨l, List.mem_cons_self, h⟩
  | l :: m :: r, h => by
    have h : c ∈ l ++ (s ++ TL.joinL s (m :: r)) := h
    rcases List.mem_append.mp h with h | h
    · exact .inr ⟨l, List.mem_cons_self, h⟩
    · rcases List.mem_append.mp h with h | h
      · exact .inl h
      · rcases joinL_mem h with h | ⟨x, hx, h⟩
        · exact .inl h
        · exact .inr ⟨x, List.mem_cons_of_mem _ hx, h⟩
theorem asc_join {y : Str} {ts : List Str} (hy : Asc y) (h : ∀ t ∈ ts, Asc t) : Asc (Str.join y ts) := fun c hc => by
  have e : (Str.join y ts).cps.toList = TL.joinL y.cps.toList (ts.map fun t => t.cps.toList) := TL.tl_join y ts
  rw [e] at hc
  rcases joinL_mem hc with hc | ⟨l, hl, hc⟩
  · exact hy c hc
  · obtain ⟨t, ht, rfl⟩ := List.mem_map.mp hl
    exact h t ht c hc
theorem asc_odds : ∀ {xs : List PyData}, (∀ x ∈ xs, OddP x) → ∀ t ∈ PyData.shownAll xs, Asc t
  | [], _, t, h => by rw [PyData.shownAll_nil] at h; exact absurd h List.not_mem_nil
  | x :: r, h, t, ht => by
    rw [PyData.shownAll_cons] at ht
    rcases List.mem_cons.mp ht with rfl | ht
    · rcases h x List.mem_cons_self with ⟨i, rfl, _⟩ | rfl
      · rw [PyData.shown_int]
        exact asc_int i
      · rw [PyData.shown_str]
        unfold Asc
        decide +kernel
    · exact asc_odds (fun y hy => h y (List.mem_cons_of_mem _ hy)) t ht
theorem asc_tup {xs : List PyData} (h : ∀ x ∈ xs, OddP x) : Asc (PyData.shown (.tuple xs)) := by
  have e : PyData.shown (.tuple xs) = tupleText (PyData.shownAll xs) := by simp only [PyData.shown]
  rw [e]
  unfold tupleText
  refine asc_app (asc_app (by unfold Asc; decide +kernel) (asc_join (by unfold Asc; decide +kernel) (asc_odds h))) ?_
  split
  · unfold Asc; decide +kernel
  · unfold Asc; decide +kernel
theorem asc_none : Asc (PyData.shown .none) := by
  rw [PyData.shown_none]
  unfold Asc
  decide +kernel
def toPy : V → PyData
  | .int i => .int i
  | .str z => .str z
  | _ => .none
def OddXs (n : Nat) (xs : List V) : Prop := (xs.length = n + 1 ∧ ∀ v ∈ xs, ∃ i : Int, v = .int i ∧ numOk i) ∨
  ∃ (y : V) (r : List Int), xs = y :: r.map V.int ∧ r.length + 1 = n ∧ (∀ v ∈ r, numOk v) ∧ (y = .int (-1) ∨ y = .int 1099511627776 ∨ y = .str "1")
def OddIs (H : Hp) (n : Nat) (x : V) (D : PyData) : Prop := (x = .non ∧ D = .none) ∨ ∃ (t : Addr) (xs : List V), x = .ref t ∧ H t = some (.tup xs) ∧ OddXs n xs ∧ D = .tuple (xs.map toPy)
theorem OddIs.ext {H H' : Hp} {n : Nat} {x : V} {D : PyData} (h : OddIs H n x D) (e : LamX.ExtN H H') : OddIs H' n x D := by
  rcases h with h | ⟨t, xs, h1, h2, h3⟩
  · exact .inl h
  · exact .inr ⟨t, xs, h1, e _ _ h2 (fun ps z => by cases z), h3⟩
theorem OddIs.nval {H : Hp} {n : Nat} {x : V} {D : PyData} (h : OddIs H n x D) : NVal H n x none := by
  rcases h with ⟨rfl, _⟩ | ⟨t, xs, rfl, h2, h3, _⟩
  · exact .non
  · rcases h3 with ⟨h3, _⟩ | ⟨y, r, rfl, h4, h5, h6⟩
    · exact .long h2 (by omega)
    · exact .bad h2 h4 h5 h6
theorem OddXs.els {n : Nat} {xs : List V} (h : OddXs n xs) : ∀ v ∈ xs, (∃ i : Int, v = .int i ∧ i.natAbs < 2 ^ 60) ∨ v = .str "1" := fun v hv => by
  have ok : ∀ i : Int, numOk i → i.natAbs < 2 ^ 60 := fun i ⟨a, b⟩ => by
    have e : (2 : Nat) ^ 60 = 1152921504606846976 := by decide
    rw [e]
    omega
  rcases h with ⟨_, h⟩ | ⟨y, r, rfl, _, h5, h6⟩
  · obtain ⟨i, e, hi⟩ := h v hv
    exact .inl ⟨i, e, ok i hi⟩
  · rcases List.mem_cons.mp hv with rfl | hv
    · rcases h6 with rfl | rfl | rfl
      · exact .inl ⟨_, rfl, by decide⟩
      · exact .inl ⟨_, rfl, by decide⟩
      · exact .inr rfl
    · obtain ⟨i, hi, rfl⟩ := List.mem_map.mp hv
      exact .inl ⟨i, rfl, ok i (h5 i hi)⟩
theorem OddXs.len {n : Nat} {xs : List V} (h : OddXs n xs) (hn : n ≤ 3) : xs.length ≤ 10 := by
  rcases h with ⟨h, _⟩ | ⟨y, r, rfl, h, _⟩
  · omega
  · rw [List.length_cons, List.length_map]
    omega
theorem OddXs.odd {n : Nat} {xs : List V} (h : OddXs n xs) : ∀ x ∈ xs.map toPy, OddP x := fun x hx => by
  obtain ⟨v, hv, rfl⟩ := List.mem_map.mp hx
  rcases h.els v hv with ⟨i, rfl, hi⟩ | rfl
  · exact odd_int hi
  · exact .inr rfl
theorem dp_odd {K : PySem.W.Frag} {H : Hp} : ∀ {xs : List V}, (∀ v ∈ xs, (∃ i : Int, v = .int i ∧ i.natAbs < 2 ^ 60) ∨ v = .str "1") → DpAll K H xs (xs.map toPy)
  | [], _ => .nil
  | v :: r, h => by
    refine .cons ?_ (dp_odd fun x hx => h x (List.mem_cons_of_mem _ hx))
    rcases h v List.mem_cons_self with ⟨i, rfl, _⟩ | rfl
    · exact .int i
    · exact .str _
theorem OddIs.all {K : PySem.W.Frag} {H : Hp} {n : Nat} {x : V} {D : PyData} (h : OddIs H n x D) (hn : n ≤ 3) : (x = .non ∨ ∃ a, x = .ref a) ∧ Dp K H x D ∧ D.showable = true ∧ D.hasDict = false ∧ D.depth ≤ 3 ∧ D.shown.length ≤ sizeLine ∧ Asc D.shown := by
  rcases h with ⟨rfl, rfl⟩ | ⟨t, xs, rfl, h2, h3, rfl⟩
  · obtain ⟨a, b, c, d⟩ := odd_none
    exact ⟨.inl rfl, .non, a, b, c, d, asc_none⟩
  · obtain ⟨a, b, c, d⟩ := odd_tupD h3.odd (by rw [List.length_map]; exact h3.len hn)
    exact ⟨.inr ⟨t, rfl⟩, .tup (SqT.of h2) (dp_odd h3.els), a, b, c, d, asc_tup h3.odd⟩
/-! t + u, what comes out -/
def rCatZ : R2 := fun x y H Q => ∃ a b xs ys, x = .ref a ∧ y = .ref b ∧ H a = some (.tup xs) ∧ H b = some (.tup ys) ∧ xs ≠ [] ∧ xs.length + ys.length ≤ sizeLine ∧ ∀ (p : Addr) (H' : Hp), Same H H' → H' p = some (.tup (xs ++ ys)) → Q (.ref p) H'
theorem op_catZ {X : Cx} : OpR X (binaryOp .Add) rCatZ := by
  intro pins s σ H x y v u Q I rx ry h
  obtain ⟨a, b, xs, ys, rfl, rfl, ha, hb, hne, hz, q⟩ := h
  refine op_catT pins s σ H _ _ v u Q I rx ry ⟨a, b, xs, ys, rfl, rfl, SqT.of ha, SqT.of hb, hne, hz, fun e => ?_, fun _ p hp => q p _ (same_upd hp) upd_same⟩
  subst e
  exact q a H (Same.refl H) (by rw [List.append_nil]; exact ha)
theorem ProgAt.ext {K : PySem.W.Frag} {H H' : Hp} {p : Addr} {rs cs : List (List Nat)} (h : ProgAt K H p rs cs) (s : LamX.ExtN H H') : ProgAt K H' p rs cs := by
  obtain ⟨dx, fs, tr, tc, h1, h2, h3, ⟨o4, a4, b4, c4⟩, ⟨o5, a5, b5, c5⟩⟩ := h.ex
  exact ⟨dx, fs, tr, tc, s _ _ h1 (fun _ z => by cases z), h2, h3, ⟨o4, a4, b4, s _ _ c4 (fun _ z => by cases z)⟩, ⟨o5, a5, b5, s _ _ c5 (fun _ z => by cases z)⟩⟩
def pairPy (z : Str) : PyData := .tuple [.str "values", .str z]
theorem lay_pair {k : Nat} {z : Str} (h : Asc z) : Lay (k + 1) (pairPy z) := Lay.tuple fun d hd => by
  rcases List.mem_cons.mp hd with rfl | hd
  · exact Lay.str (by decide +kernel)
  · rw [List.mem_singleton.mp hd]
    exact Lay.str h
theorem lay_pairs {z : Str} (h : Asc z) : Lay 2 (.list [pairPy z, pairPy z]) := Lay.list fun d hd => by
  rcases List.mem_cons.mp hd with rfl | hd
  · exact lay_pair h
  · rw [List.mem_singleton.mp hd]
    exact lay_pair h
theorem dp_pair {K : PySem.W.Frag} {H : Hp} {t : Addr} {z : Str} (h : H t = some (.tup [.str "values", .str z])) : Dp K H (.ref t) (pairPy z) := .tup (SqT.of h) (.cons (.str _) (.cons (.str _) .nil))
end Tg

-- part KY
set_option Elab.async false
set_option linter.all false
set_option maxRecDepth 100000
set_option maxHeartbeats 8000000
namespace Tg
open PySem PySem.Spec PyProof.Rows L2 TgM
/-! ### law -/
theorem pass_false {X : Cx} : Passes (L2.CX X.prog X.w) X (fun _ _ _ => False) := fun _ _ _ _ _ _ _ c => by
  obtain ⟨_, _, _, _, _, _, _, _, _, _, _, _, z⟩ := c
  exact z.elim
abbrev nmLaw : List Str := ["_law_script", "_law_pen_here", "_law_drawn", "_law_many", "_law_colours", "_law_program_here", "_law_lap", "_law_values", "_law_due", "_law_told", "_law_digits_here", "_law_row_here", "_law_numbers", "_law_odd", "_law_found", "_law_value", "_law_place", "_law_at", "_law_some"]
theorem scLaw : FnScope nmLaw ["_law_script"] (defScope (top 69)) := ⟨rfl, rfl, rfl, by decide +kernel, rfl, by decide +kernel, by decide +kernel⟩
/-- the scope of the outer comprehension of _law_digits_here -/
def scD : Scope := { kind := .function, names := [((".0" : Str), .local), (("_law_at" : Str), .local), (("tuple" : Str), .globalImplicit), (("range" : Str), .globalImplicit), (("_law_many" : Str), .free), (("_law_pen_here" : Str), .free)], isGenerator := false, isCoroutine := false }
section
variable {P : Program} {w : World} {K : PySem.W.Frag} {mg : Str → Option Value} {base : Heap}
theorem law_body (T : Txt K mg w) {f0 cL PL : Addr} {A : Around} {outer : List Env} {s : Shared} {H : Hp} {Q : VK} {E : XK} (TB : LamX.TabB base mg cL PL) (hgd : A.guards = some [])
    (hr : Room 7 (A.deeper (envOfC "law" (defScope (top 69)) s.heap.objs.size f0 (.ref cL)))) {a : Addr} {script : List Int} (hsc : SqL K H a (script.map V.int)) (htb : H PL = some (.tbl #[])) (go : ∀ H', Q (.bl true) H') :
    ∃ t, PSs (cxOf CX0 P w K mg base nmLaw "law" (defScope (top 69)) f0 (.ref cL) A outer s H E).nox (defBody (top 69)) t ∧ t { nx := fun _ H' => Q .non H', rt := Q } (start nmLaw [.ref a]) H := by
  have nd := scLaw.nd
  have hu := hu_of hr
  have hu64 := hr.units
  have hgd2 : (A.deeper (envOfC "law" (defScope (top 69)) s.heap.objs.size f0 (.ref cL))).guards = some [] := hgd
  have hu100 : (A.deeper (envOfC "law" (defScope (top 69)) s.heap.objs.size f0 (.ref cL))).units + 100 < cLine := by have := hr.un; omega
  obtain ⟨fdP, FP, bP⟩ := ok_init (P := P) (base := base) T
  obtain ⟨fdR, FR⟩ := (T.d 35).ex
  obtain ⟨ocR, odR, dVR, kVR, docR, pmR, anR, cdvR, ctR, oslR, rfl, lkR, hcR, _, _⟩ := id FR.ex
  have bR : Binds K _ ["_law_call"] [] := FR.bindsN (fun _ _ _ _ _ _ us hl => match us, hl with | [_], _ => rfl)
  refine ⟨_, pss_cons (ps_set (i := 1) nd rfl (.inr rfl) (pe_c (ok_pen T) hr (by decide) (pa_cons (pv 0) pa_nil)))
    (pss_cons (ps_set (i := 2) nd rfl (.inl rfl) (pe_c (ok_any T) hr (by decide) (pa_cons (pv 1) (pa_cons pe_int pa_nil))))
    (pss_cons (ps_asg (pe_tup (pa_cons (pe_callB call_len_seq (by rfl) (T.free "len") PySem.boot_len (pa_cons (pe_dget hu (pv 2) pe_str (fun _ _ => rfl)) pa_nil)) (pa_cons (pe_dget hu (pv 2) pe_str (fun _ _ => rfl)) pa_nil)))
        (pg_tup (by rfl) (pgs_cons (pg_name (i := 3) nd rfl (.inr rfl)) (pgs_cons (pg_name (i := 4) nd rfl (.inr rfl)) pgs_nil))))
    (C8.pss_cut (ps_set (i := 5) nd rfl (.inr rfl) (pe_make T.progM FP (hr.mono (by decide)) rfl T.progG bP .nil pass0 (pa_cons (pe_c (ok_text T) hr (by decide) (pa_cons (pe_c (ok_lines T) hr (by decide) (pa_cons (pv 1) (pa_cons (pv 2) pa_nil))) pa_nil)) pa_nil)))
    (C8.pss_cut (ps_for PassesOwn.never rfl (pi_range1 rfl (T.free "range") (pa_cons pe_int pa_nil)) (pg_name (i := 6) nd rfl (.inl rfl))
        (pss_cons (ps_set (i := 7) nd rfl (.inl rfl) (pe_c (ok_some T) hr (by decide) (pa_cons (pv 1) (pa_cons (pv 3) pa_nil))))
        (C8.pss_cut (ps_if (pt_cmpR op_eq (pe_c (ok_draw T) hr (by decide) (pa_cons (pv 1) (pa_cons pe_int pa_nil))) pe_int (nomark _))
          (pss_one (ps_set (i := 7) nd rfl (.inl rfl) (pe_callTy (r := rTupOf K) (call_tupleK rfl) (by rfl) (T.free "tuple") (by decide +kernel) (pa_cons
            (pe_lc (own := [("_law_value", 15)]) (g := gName 15) (tt := tYes) rfl nd (pi_tup (pv 7)) (blkOk_by (N := nmLaw) (sc := defScope (top 69)) (by decide +kernel)) (fun _ _ _ _ _ => pg_name (i := 15) nd rfl (.inl rfl)) (fun _ _ _ _ _ => pts_nil)
              (fun _ _ _ _ _ => pe_c (ok_pick T) hr (by decide) (pa_cons (pv 1) (pa_cons (pe_lst (pa_cons (pe_op op_sub (pe_op op_pow pe_int pe_int) pe_int) (pa_cons (pe_op op_pow pe_int pe_int) (pa_cons pe_int (pa_cons (pe_c (ok_draw T) hr (by decide) (pa_cons (pv 1) (pa_cons (pe_op op_pow pe_int pe_int) pa_nil))) pa_nil))))) pa_nil)))) pa_nil))))
          pss_nil)
        (pss_cons (ps_set (i := 8) nd rfl (.inl rfl) (pe_c (ok_row T) hr (by decide) (pa_cons (pv 7) (pa_cons (pe_op op_rep (pe_lst (pa_cons (pe_ix ix_list (pv 4) pe_int (fun _ _ => rfl)) pa_nil)) (pe_callB (cr_max rfl) (by rfl) (T.free "max") (by decide +kernel) (pa_cons (pe_op op_cat (pe_lst (pa_cons pe_int pa_nil))
            (pe_lc (own := [("_law_value", 15)]) (g := gName 15) (tt := tYes) rfl nd (pi_tup (pv 7)) (blkOk_by (N := nmLaw) (sc := defScope (top 69)) (by decide +kernel)) (fun _ _ _ _ _ => pg_name (i := 15) nd rfl (.inl rfl)) (fun _ _ _ _ _ => pts_nil)
              (fun _ _ _ _ _ => pe_c (ok_digits T) hr (by decide) (pa_cons (pv 15) pa_nil)))) pa_nil))) pa_nil))))
        (pss_cons (ps_set (i := 9) nd rfl (.inl rfl) (pe_cX (ok_first T) pass_false hr (by decide) (pa_cons (pv 5) (pa_cons (pe_c (ok_pick T) hr (by decide) (pa_cons (pv 1) (pa_cons (pe_lst (pa_cons (pv 7) (pa_cons (pe_callTy call_list_of (by rfl) (T.free "list") (by decide +kernel) (pa_cons (pv 7) pa_nil)) pa_nil))) pa_nil))) pa_nil))))
        (C8.pss_cut (ps_if (PW.pt (pw_or (pt_cmpR (op_neD hu64) (pv 9) (pv 8) (nomark _)) (pw_or (pt_cmpR (op_neD hu64) (pe_c (ok_vals T) hr (by decide) (pa_cons (pv 9) pa_nil)) (pv 7) (nomark _))
            (pw_or1 (pt_not (pt_val (pe_callB call_isi (by rfl) (T.free "isinstance") (by decide +kernel) (pa_cons (pe_c (ok_vals T) hr (by decide) (pa_cons (pv 9) pa_nil)) (pa_cons (pe_bltn (v := .ty "tuple") (by rfl) (T.free "tuple") (by decide +kernel) rfl) pa_nil))))))))) pss_never pss_nil)
        (pss_cons (ps_setLc (i := 10) (own := [("_law_at", 17)]) (g := gName 17) (tt := tYes) rfl nd rfl rfl (sw_true rfl rfl rfl (by decide +kernel)) (pi_range1 rfl (T.free "range") (pa_cons (pe_op op_add pe_int (pe_c (ok_draw T) hr (by decide) (pa_cons (pv 1) (pa_cons pe_int pa_nil)))) pa_nil)) (blkOk_by (N := nmLaw) (sc := defScope (top 69)) (by decide +kernel))
            (fun _ _ _ _ _ => pg_name (i := 17) nd rfl (.inl rfl)) (fun _ _ _ _ _ => pts_nil)
            (fun _ _ _ _ _ => pe_callTy (r := rTupOf K) (call_tupleK rfl) (by rfl) (T.free "tuple") (by decide +kernel) (pa_cons
              (pe_lc (own := [("_law_place", 16)]) (g := gName 16) (tt := tYes) rfl nd (pi_range1 rfl (T.free "range") (pa_cons (pv 3) pa_nil)) (blkOk_by (N := nmLaw) (sc := relS scD (defScope (top 69))) (by decide +kernel)) (fun _ _ _ _ _ => pg_name (i := 16) nd rfl (.inl rfl)) (fun _ _ _ _ _ => pts_nil)
                (fun _ _ _ _ _ => pe_c (ok_draw T) hr (by decide) (pa_cons (pv 1) (pa_cons pe_int pa_nil)))) pa_nil)))
        (pss_cons (ps_set (i := 11) nd rfl (.inr rfl) (pe_callTy (r := rTupOf K) (call_tupleK rfl) (by rfl) (T.free "tuple") (by decide +kernel) (pa_cons
            (pe_lc (own := [("_law_some", 18)]) (g := gName 18) (tt := tYes) rfl nd (pi_list (pv 10)) (blkOk_by (N := nmLaw) (sc := defScope (top 69)) (by decide +kernel)) (fun _ _ _ _ _ => pg_name (i := 18) nd rfl (.inl rfl)) (fun _ _ _ _ _ => pts_nil)
              (fun _ _ _ _ _ => pe_tup (pa_cons (pv 18) (pa_cons (pe_c (ok_pick T) hr (by decide) (pa_cons (pv 1) (pa_cons (pv 4) pa_nil))) pa_nil)))) pa_nil)))
        (pss_cons (ps_set (i := 12) nd rfl (.inl rfl) (pe_callTy (r := rTupOf K) (call_tupleK rfl) (by rfl) (T.free "tuple") (by decide +kernel) (pa_cons
            (pe_lc (own := [("_law_place", 16)]) (g := gName 16) (tt := tYes) rfl nd (pi_range1 rfl (T.free "range") (pa_cons (pv 3) pa_nil)) (blkOk_by (N := nmLaw) (sc := defScope (top 69)) (by decide +kernel)) (fun _ _ _ _ _ => pg_name (i := 16) nd rfl (.inl rfl)) (fun _ _ _ _ _ => pts_nil)
              (fun _ _ _ _ _ => pe_c (ok_total T) hr (by decide) (pa_cons (pv 11) (pa_cons (pv 16) pa_nil)))) pa_nil)))
        (C8.pss_cut (ps_if (PW.pt (pw_or (pt_cmpR (op_neD hu64) (pe_c (ok_vals T) hr (by decide) (pa_cons (pv 11) pa_nil)) (pv 12) (nomark _))
            (pw_or1 (pt_cmpR (op_neD hu64) (pe_c (ok_steps4 T) hr (by decide) (pa_cons (pv 5) (pa_cons (pe_lst (pa_cons (pv 8) (pa_cons (pv 11) (pa_cons (pv 8) (pa_cons (pv 8) pa_nil))))) pa_nil))) (pe_tup (pa_cons (pv 12) (pa_cons (pv 7) pa_nil))) (nomark _))))) pss_never pss_nil)
        (pss_one (ps_if (PW.pt (pw_or (pt_cmpR (op_neD hu64) (pe_c (ok_steps1 T) hr (by decide) (pa_cons (pv 5) (pa_cons (pe_tup (pa_cons (pv 11) pa_nil)) pa_nil))) (pe_tup pa_nil) (nomark _))
            (pw_or1 (pt_cmpR (op_neD hu64) (pe_c (ok_steps0 T) hr (by decide) (pa_cons (pv 5) (pa_cons (pe_lst pa_nil) pa_nil))) (pe_tup pa_nil) (nomark _))))) pss_never pss_nil))))))))))))
    (pss_cons (ps_set (i := 13) nd rfl (.inr rfl) (pe_c (ok_pick T) hr (by decide) (pa_cons (pv 1) (pa_cons (pe_lst (pa_cons pe_non (pa_cons (pe_op op_catZ (pv 7) (pe_tup (pa_cons pe_int pa_nil)))
        (pa_cons (pe_op op_catZ (pe_tup (pa_cons (pe_un un_neg pe_int) pa_nil)) (pe_slice sl_tup (pv 7) (po_some pe_int) po_none)) (pa_cons (pe_op op_catZ (pe_tup (pa_cons (pe_op op_pow pe_int pe_int) pa_nil)) (pe_slice sl_tup (pv 7) (po_some pe_int) po_none))
        (pa_cons (pe_op op_catZ (pe_tup (pa_cons pe_str pa_nil)) (pe_slice sl_tup (pv 7) (po_some pe_int) po_none)) pa_nil)))))) pa_nil))))
    (pss_cons (ps_set (i := 14) nd rfl (.inl rfl) (pe_lst (pa_cons (LamX.pe_lamcall (T := [(PL, (envOfC "law" (defScope (top 69)) s.heap.objs.size f0 (.ref cL)).qual ++ ("<lambda>" : Str))]) (k := 5) (t := fun E => tCall (spFirst K) [] E (tCons (tVar 5) (tCons (tVar 13) tNil))) rfl (T.d 35).g FR.kp lkR hcR bR scRef rfl (.inl rfl) (ref_gives T hgd2 hu100) TB rfl (List.mem_singleton.mpr rfl) (fun p hp _ => congrArg Prod.snd (List.mem_singleton.mp hp)) hr (LamX.lamS_by (sc := defScope (top 69)) (by decide +kernel)) rfl (fun _ _ _ _ _ => rfl)
          (fun A outer s H E f c' hr2 => pe_cX (ok_first T) (passes_call (takes_of rfl rfl rfl rfl) (fun _ _ _ _ h => h)) hr2 (by decide) (pa_cons (pv 5) (pa_cons (pv 13) pa_nil)))) pa_nil)))
    (pss_cons (ps_expr (pe_bm PySem.F.plainAttrs_list PySem.F.slot_list_append PySem.F.type_list_append mt_append (pv 14) (pa_cons (LamX.pe_lamcall (T := [(PL, (envOfC "law" (defScope (top 69)) s.heap.objs.size f0 (.ref cL)).qual ++ ("<lambda>" : Str))]) (k := 5) (t := fun E => tCall (spSweeps K) [] E (tCons (tVar 5) (tCons (tVar 13) tNil))) rfl (T.d 35).g FR.kp lkR hcR bR scRef rfl (.inl rfl) (ref_gives T hgd2 hu100) TB rfl (List.mem_singleton.mpr rfl) (fun p hp _ => congrArg Prod.snd (List.mem_singleton.mp hp)) hr (LamX.lamS_by (sc := defScope (top 69)) (by decide +kernel)) rfl (fun _ _ _ _ _ => rfl)
          (fun A outer s H E f c' hr2 => pe_cX (ok_sweeps T) (passes_call (takes_of rfl rfl rfl rfl) (fun _ _ _ _ h => h)) hr2 (by decide) (pa_cons (pv 5) (pa_cons (pv 13) pa_nil)))) pa_nil)))
    (pss_one (ps_ret (pe_cmpR (op_eqD hu64) (pv 14) (pe_op op_rep (pe_lst (pa_cons (pe_tup (pa_cons pe_str (pa_cons (pe_callB (call_rep (K := K) rfl hgd2 hu64) (by rfl) (T.free "repr") (by decide +kernel) (pa_cons (pv 13) pa_nil)) pa_nil))) pa_nil)) pe_int) (nomark _))))))))))), ?_⟩
  -- the pen, the drawn program
  refine ⟨_, rfl, a, script, rfl, hsc, fun H1 c q s1 hqn p1 => ?_⟩
  refine ⟨_, rfl, c, q, 0, rfl, p1, by omega, fun H2 d rs cs os s2 p2 hdr gd hdq => ?_⟩
  obtain ⟨lr, lc, lo, hd, hlr, hlc, hlo⟩ := id hdr
  refine ⟨_, rfl, d, _, rfl, dg_regs hd, lr, _, rfl, .inl (SqL.of hlr), _, rfl, d, _, rfl, dg_cols hd, by show 2 ≤ sizeLine; decide, fun t ht => ⟨t, _, rfl, SqT.of upd_same, rfl, _, _, rfl, _, _, rfl, rfl, ?_⟩⟩
  have S3 := same_upd (o := .tup [.int ((rs.map tx).length : Nat), .ref lc]) ht
  have p3 := p2.upd (o := .tup [.int ((rs.map tx).length : Nat), .ref lc]) ht
  have hdr3 : DrawnAt (upd H2 t (.tup [.int ((rs.map tx).length : Nat), .ref lc])) d rs cs os := by
    obtain ⟨ts, h1, h2⟩ := hlo
    exact ⟨lr, lc, lo, S3 _ _ hd, S3 _ _ hlr, S3 _ _ hlc, ts, S3 _ _ h1, L2.Paired.mapP h2 fun _ _ z => S3 _ _ z⟩
  have hlc3 := S3 _ _ hlc
  have htb1 : H1 PL = some (.tbl #[]) := s1 _ _ htb
  have nPq : PL ≠ q := p1.ne htb1 (fun _ z => by cases z)
  have htb3 := S3 _ _ (s2 _ _ nPq htb1)
  generalize upd H2 t (.tup [.int ((rs.map tx).length : Nat), .ref lc]) = H3 at S3 p3 hdr3 hlc3 htb3 ⊢
  refine ⟨fun σ H5 => ∃ p : Addr, σ = [some (.ref a), some (.ref q), some (.ref d), some (.int (rs.length : Nat)), some (.ref lc), some (.ref p), none, none, none, none, none, none, none, none, none, none, none, none, none] ∧ PenAt c q 261 H5 ∧ H5 lc = some (.lst (cs.map tx)) ∧ ProgAt K H5 p rs cs ∧ H5 PL = some (.tbl #[]), ?_, ?_⟩
  · refine ⟨_, rfl, _, rfl, c, q, d, _, rs, cs, os, rfl, p3, by omega, hdr3, gd, hdq, fun H4 l bs s4 p4 hl hb => ?_⟩
    have hbl := hb.sz
    refine ⟨l, _, rfl, hl, lines_ok gd hb, by rw [List.length_append, List.length_map]; show 2 + _ ≤ 60; omega, fun H5 s5 => ?_⟩
    refine fun x dx hxn hdxn hne => ⟨x, dx, rs, cs, os, bs, rfl, upd_same, gd, hb, fun H6 fs tr tc s6 hx6 f1 f2 f3 f4 => ⟨rfl, ?_⟩⟩
    have S56 : Same H5 H6 := fun b o e => s6 b o (ne_of_none e hxn) (by rw [upd_ne (ne_of_none e hxn), upd_ne (ne_of_none e hdxn)]; exact e)
    have sl := s4.trans (Sm.of (q := q) (s5.trans S56))
    refine ⟨x, ?_, (p4.same (s5.trans S56)).mono (by omega), sl.lst p3 hlc3, ⟨dx, fs, tr, tc, hx6, f1, f2, f3, f4⟩, sl _ _ nPq htb3⟩
    rw [List.length_map]
    rfl
  rintro σ H5 ⟨p, rfl, p5, hlc5, pr5, htb5⟩
  clear hdr3 S3 p3 hlc3 htb3 htb1 hdr hd hlr hlc hlo s2 p2 ht H3 H2
  have hm1 := gd.r1
  have hm3 := gd.r3
  obtain ⟨c0, hc0⟩ : ∃ c0, cs[0]? = some c0 := ⟨cs[0]'(by have := gd.c1; omega), List.getElem?_eq_getElem _⟩
  have hc0n : NameL c0 := gd.cn c0 (List.mem_of_getElem? hc0)
  obtain ⟨m, hm⟩ : ∃ m, m = rs.length := ⟨_, rfl⟩
  refine ⟨fun σ HL => ∃ (v6 v8 v9 v10 v11 v12 : Option V) (tv : Addr) (ns : List Int), σ = [some (.ref a), some (.ref q), some (.ref d), some (.int (rs.length : Nat)), some (.ref lc), some (.ref p), v6, some (.ref tv), v8, v9, v10, v11, v12, none, none, none, none, none, none] ∧
    Sm q H5 HL ∧ PenAt c q (261 + 300 * 6) HL ∧ HL tv = some (.tup (ns.map V.int)) ∧ ns.length = rs.length ∧ ∀ v ∈ ns, numOk v, ?_, ?_⟩
  · refine ⟨6, rfl, by decide, by decide, ?_⟩
    refine for_range (lo := 0) (n := (6 : Int).toNat) (fun i σ HL => ∃ (v6 v7 v8 v9 v10 v11 v12 : Option V), σ = [some (.ref a), some (.ref q), some (.ref d), some (.int (rs.length : Nat)), some (.ref lc), some (.ref p), v6, v7, v8, v9, v10, v11, v12, none, none, none, none, none, none] ∧
      Sm q H5 HL ∧ PenAt c q (261 + 300 * i) HL ∧ (0 < i → ∃ (tv : Addr) (ns : List Int), v7 = some (.ref tv) ∧ HL tv = some (.tup (ns.map V.int)) ∧ ns.length = rs.length ∧ ∀ v ∈ ns, numOk v)) ?_ ?_ ?_
    · exact ⟨none, none, none, none, none, none, none, rfl, Sm.refl H5, p5, fun h => absurd h (by decide)⟩
    · rintro i σ HL hi ⟨v6, v7, v8, v9, v10, v11, v12, rfl, sm, pn, _⟩
      have hi6 : i < 6 := hi
      have hlcL := sm.lst p5 hlc5
      have prL := pr5.sm sm p5
      -- values
      refine ⟨_, rfl, _, rfl, c, q, 261 + 300 * i, rs.length, rfl, pn, by omega, hm3, fun H6 t ns s6 p6 ht hl hv => ?_⟩
      refine ⟨fun σ H7 => ∃ (tv : Addr) (ns : List Int), σ = [some (.ref a), some (.ref q), some (.ref d), some (.int (rs.length : Nat)), some (.ref lc), some (.ref p), some (.int (0 + (i : Int))), some (.ref tv), v8, v9, v10, v11, v12, none, none, none, none, none, none] ∧
        Sm q HL H7 ∧ PenAt c q (261 + 300 * i + 20) H7 ∧ H7 tv = some (.tup (ns.map V.int)) ∧ ns.length = rs.length ∧ ∀ v ∈ ns, numOk v, ?_, ?_⟩
      · refine ⟨_, rfl, c, q, _, 2, rfl, p6, by omega, by decide, by decide, fun H7 r s7 p7 r0 r1 => ⟨rfl, _, rfl, ite2 (fun _ => ?_) (fun _ => ?_)⟩⟩
        · have ht7 := s7.tup p6 ht
          refine ⟨_, rfl, t, rfl, ⟨_, SqT.of ht7⟩, fun D hD => ?_⟩
          have hDq := p7.ne_none hD
          refine lc_tup (K := K) (a := t) (xs := ns.map V.int) (fun j H8 => ∃ us : List Int, us.length = j ∧ (∀ v ∈ us, numOk v) ∧ Sm q H7 H8 ∧ PenAt c q (261 + 300 * i + 10 + 2 * j) H8 ∧ H8 D = some (.lst (us.map V.int)))
            ⟨[], rfl, fun _ h => absurd h List.not_mem_nil, (Sm.refl H7).new hD, (p7.mono (by omega)).upd hD, upd_same⟩ (fun j H8 _ h => by obtain ⟨_, _, _, h, _⟩ := h; exact SqT.of (h.tup p7 ht7)) ?_ ?_
          · rintro j x H8 hj ⟨us, rfl, hus, s8, p8, g8⟩
            have hjl : us.length < 3 := by
              rcases Nat.lt_or_ge us.length (ns.map V.int).length with z | z
              · rw [List.length_map] at z; omega
              · rw [List.getElem?_eq_none z] at hj; cases hj
            refine ⟨rfl, _, rfl, _, _, rfl, rfl, ⟨by decide, by decide, by decide⟩, _, _, rfl, rfl, _, _, rfl, rfl, ⟨by decide, by decide, by decide⟩, _, rfl, _, _, rfl, rfl, ⟨by decide, by decide, by decide⟩, c, q, _, _, rfl, p8, by omega, (by show (0 : Int) < 2 ^ 40; decide), (by show (2 : Int) ^ 40 < 2 ^ 63; decide), fun H9 z s9 p9 z0 z1 => ?_⟩
            refine ⟨by show 4 ≤ sizeLine; decide, fun pl hpl => ?_⟩
            refine ⟨c, q, pl, _, _, rfl, p9.upd hpl, by omega, SqL.of upd_same, by show 0 < 4; decide, by show 4 ≤ 1000; decide, fun H10 y s10 p10 hy => ?_⟩
            obtain ⟨v, rfl, hvk⟩ : ∃ v : Int, y = .int v ∧ numOk v := by
              have hz1 : z < 1099511627776 := z1
              simp only [List.mem_cons, List.not_mem_nil, or_false] at hy
              rcases hy with rfl | rfl | rfl | rfl
              · exact ⟨_, rfl, by decide, by decide⟩
              · exact ⟨_, rfl, by decide, by decide⟩
              · exact ⟨_, rfl, by decide, by decide⟩
              · exact ⟨z, rfl, z0, hz1⟩
            have s810 : Sm q H8 H10 := (s9.trans ((Sm.refl H9).new hpl)).trans s10
            have g10 := s810 _ _ hDq g8
            refine ⟨_, g10, by rw [List.length_map]; exact small1000 (by omega), us ++ [v], by simp, fun w hw => ?_, (s8.trans s810).new hD, ?_, by rw [upd_same, List.map_append] <;> rfl⟩
            · rcases List.mem_append.mp hw with hw | hw
              · exact hus w hw
              · rw [List.mem_singleton.mp hw]
                exact hvk
            · exact (p10.mono (by omega)).new p7 hD
          rintro H8 ⟨us, hul, hus, s8, p8, g8⟩
          rw [List.length_map] at hul p8
          refine ⟨D, _, rfl, .inl ⟨SqL.of g8, fun t2 ht2 => ⟨t2, us, rfl, ((s6.trans s7).trans s8).trans ((Sm.refl H8).new ht2), ?_, upd_same, by omega, hus⟩⟩⟩
          exact (p8.mono (by omega)).upd ht2
        · exact ⟨t, ns, rfl, s6.trans s7, p7.mono (by omega), s7.tup p6 ht, hl, fun v hv2 => hv v hv2⟩
      rintro σ H7 ⟨tv, ns, rfl, s7, p7, ht, hl, hv⟩
      -- due
      have hlc7 := s7.lst (c := c) (n := 261 + 300 * i) pn hlcL
      have pr7 := prL.sm s7 pn
      refine ⟨_, rfl, _, rfl, lc, _, 0, tx c0, rfl, rfl, SqL.of hlc7, atI_nat (j := 0) (by rw [List.getElem?_map, hc0] <;> rfl), by show 1 ≤ sizeLine; decide, fun b hb => ⟨by show 1 ≤ sizeLine; decide, fun b2 hb2 => ?_⟩⟩
      have S8 := (same_upd (o := .lst [tx c0]) hb).trans (same_upd (o := .lst [.int 2]) hb2)
      have gb := same_upd (o := .lst [.int 2]) hb2 _ _ (upd_same (H := H7) (a := b) (o := .lst [tx c0]))
      have gb2 := upd_same (H := upd H7 b (.lst [tx c0])) (a := b2) (o := .lst [.int 2])
      generalize upd (upd H7 b (.lst [tx c0])) b2 (.lst [.int 2]) = H8 at S8 gb gb2 ⊢
      have ht8 := S8 _ _ ht
      refine ⟨_, rfl, tv, rfl, ⟨_, SqT.of ht8⟩, fun D hD => ?_⟩
      refine lc_tup (K := K) (a := tv) (xs := ns.map V.int) (fun j H9 => Same H8 H9 ∧ H9 D = some (.lst (((ns.take j).map fun v => ((width v : Nat) : Int)).map V.int))) ⟨same_upd hD, upd_same⟩ (fun j H9 _ h => SqT.of (h.1 _ _ ht8)) ?_ ?_
      · rintro j y H9 hj ⟨s9, g9⟩
        obtain ⟨v, hv1, rfl⟩ := at_int hj
        have eo : ns.take (j + 1) = ns.take j ++ [v] := by rw [List.take_add_one, hv1] <;> rfl
        obtain ⟨v0, v1⟩ := hv v (List.mem_of_getElem? hv1)
        refine ⟨rfl, _, rfl, v, rfl, v0, Int.lt_trans v1 (by decide), _, g9, ?_, same_new s9 hD, ?_⟩
        · rw [List.length_map, List.length_map, List.length_take]
          exact small1000 (by omega)
        · rw [eo, List.map_append, upd_same, List.map_append]
          rfl
      rintro H9 ⟨s9, g9⟩
      rw [List.length_map, List.take_length] at g9
      refine ⟨b2, D, _, _, rfl, rfl, s9 _ _ gb2, g9, by rw [List.length_map, List.length_map, sizeLine_eq]; show 1 + ns.length ≤ 16777216; omega, fun l hl0 => ?_⟩
      have S10 := same_upd (o := .lst ([.int 2] ++ (ns.map fun v => ((width v : Nat) : Int)).map V.int)) hl0
      have gl := upd_same (H := H9) (a := l) (o := .lst ([.int 2] ++ (ns.map fun v => ((width v : Nat) : Int)).map V.int))
      have s710 := (S8.trans s9).trans S10
      have gb10 := S10 _ _ (s9 _ _ gb)
      generalize upd H9 l (.lst ([.int 2] ++ (ns.map fun v => ((width v : Nat) : Int)).map V.int)) = H10 at S10 gl s710 gb10 ⊢
      refine ⟨l, (2 : Int) :: ns.map fun v => ((width v : Nat) : Int), rfl, SqL.of gl, by rw [List.length_cons]; omega, fun mx hmx hmax => ?_⟩
      obtain rfl := wid_max hmx hmax
      have hw : wid ns ≤ 40 := wid_le (by decide) fun v hv1 => num_width (hv v hv1)
      have hw2 := wid_2 ns
      refine ⟨b, _, _, rfl, rfl, gb10, by omega, by omega, by rw [Int.toNat_natCast, sizeLine_eq]; show 1 * wid ns ≤ 16777216; omega, fun l2 hl2 => ?_⟩
      rw [Int.toNat_natCast, rep_flat]
      have S11 := same_upd (o := .lst (List.replicate (wid ns) (tx c0))) hl2
      refine ⟨tv, l2, ns, c0, wid ns, rfl, S11 _ _ (s710 _ _ ht), upd_same, by omega, by omega, fun H12 due s12 hdue => ?_⟩
      have s712 := (s710.trans S11).trans s12
      have p12 := p7.same s712
      have ht12 := s712 _ _ ht
      have pr12 := pr7.same s712
      have hlc12 := s712 _ _ hlc7
      have sL12 := s7.trans (Sm.of (q := q) s712)
      clear S11 hl2 s710 gb10 gl S10 hl0 g9 s9 hD gb gb2 S8 hb2 hb
      generalize hLd : rowOf ns c0 (wid ns) = Ld at hdue
      -- told
      refine ⟨_, rfl, _, rfl, _, rfl, _, rfl, tv, _, rfl, .inr (SqT.of ht12), fun lv hlv => ⟨by show 2 ≤ sizeLine; decide, fun pl hpl => ?_⟩⟩
      have S13 := (same_upd (o := .lst (ns.map V.int)) hlv).trans (same_upd (o := .lst [.ref tv, .ref lv]) hpl)
      have glv := same_upd (o := .lst [.ref tv, .ref lv]) hpl _ _ (upd_same (H := H12) (a := lv) (o := .lst (ns.map V.int)))
      have gpl := upd_same (H := upd H12 lv (.lst (ns.map V.int))) (a := pl) (o := .lst [.ref tv, .ref lv])
      generalize upd (upd H12 lv (.lst (ns.map V.int))) pl (.lst [.ref tv, .ref lv]) = H13 at S13 glv gpl ⊢
      have p13 := p12.same S13
      refine ⟨c, q, pl, _, _, rfl, p13, by omega, SqL.of gpl, by show 0 < 2; decide, by show 2 ≤ 1000; decide, fun H14 x s14 p14 hx => ?_⟩
      have ht14 := s14.tup p13 (S13 _ _ ht12)
      have hnv : NVal H14 rs.length x (some ns) := by
        simp only [List.mem_cons, List.not_mem_nil, or_false] at hx
        rcases hx with rfl | rfl
        · exact .tup ht14 hl hv
        · exact .lst (s14.lst p13 glv) hl hv
      have pr14 := (pr12.same S13).sm s14 p13
      refine ⟨p, x, rs, cs, c0, some ns, rfl, pr14, hc0, hnv, hm3, fun ns' e' H15 told s15 htold => ?_, (fun z => by cases z)⟩
      cases e'
      rw [hLd] at htold
      have s1215 : Sm q H12 H15 := ((Sm.of S13).trans s14).trans (Sm.of s15)
      have p15 := p14.same s15
      have ht15 := s15 _ _ ht14
      have hdue15 := hdue.sm s1215 p12
      have pr15 := pr14.same s15
      have hlc15 := s1215.lst p12 hlc12
      have sL15 := sL12.trans s1215
      clear S13 glv gpl s14 s15 hx hnv pr14 ht14 p14 p13 hdue hlc12 pr12 ht12 p12
      have hLlen : Ld.length = wid ns := by rw [← hLd, row_len]
      have hLbit : BitRow ns.length Ld := by rw [← hLd]; exact bits_row ns c0 _
      have hLcol : ∀ l ∈ Ld, NameL l.2 := by rw [← hLd]; exact row_col hc0n
      have hLnum : TgM.numsOf Ld ns.length = ns := by rw [← hLd]; exact nums_row hv
      -- told != due or values_of(told) != values or not isinstance(values_of(told), tuple)
      refine ⟨fun σ H16 => σ = [some (.ref a), some (.ref q), some (.ref d), some (.int (rs.length : Nat)), some (.ref lc), some (.ref p), some (.int (0 + (i : Int))), some (.ref tv), some (.ref due), some (.ref told), v10, v11, v12, none, none, none, none, none, none] ∧ Same H15 H16, ?_, ?_⟩
      · refine ⟨_, rfl, _, rfl, rowPy Ld, rowPy Ld, dp_row htold, dp_row hdue15, (lay_row hLcol).shaped (by decide), (lay_row hLcol).shaped (by decide), _, rfl, ?_⟩
        rw [(lay_row hLcol).refl]
        refine iteF ⟨_, rfl, told, Ld, ns.length, rfl, htold, hLbit, by omega, by omega, by omega, fun H16 t2 s16 ht2 => ?_⟩
        rw [hLnum] at ht2
        refine ⟨_, rfl, intsPy ns, intsPy ns, dp_tupI ht2, dp_tupI (s16 _ _ ht15), (lay_ints (k := 0) ns).shaped (by decide), (lay_ints (k := 0) ns).shaped (by decide), _, rfl, ?_⟩
        rw [(lay_ints (k := 0) ns).refl]
        refine iteF ⟨_, rfl, told, Ld, ns.length, rfl, htold.same s16, hLbit, by omega, by omega, by omega, fun H17 t3 s17 ht3 => ?_⟩
        exact ⟨_, _, .type "tuple", .type "tuple", true, rfl, .ty "tuple", .base (.tup ht3), kit_ty (by decide +kernel), true, rfl, iteF ⟨rfl, s16.trans s17⟩⟩
      rintro σ H16 ⟨rfl, s16⟩
      have p16 := p15.same s16
      have ht16 := s16 _ _ ht15
      have hdue16 := hdue15.same s16
      have pr16 := pr15.same s16
      have hlc16 := s16 _ _ hlc15
      have sL16 := sL15.trans (Sm.of (q := q) s16)
      have hLbit : BitRow rs.length Ld := hl ▸ hLbit
      have hLnum : TgM.numsOf Ld rs.length = ns := hl ▸ hLnum
      clear s16 hlc15 pr15 hdue15 ht15 p15 sL15 htold sL12 s712 s12 pr7 hlc7
      -- digits_here
      refine ⟨_, rfl, c, q, _, 50, rfl, p16, by omega, by decide, by decide, fun H17 k s17 p17 k0 k1 => ⟨_, _, rfl, rfl, 1 + k, rfl, by omega, by omega, fun D hD => ?_⟩⟩
      have hDq := p17.ne_none hD
      have hkn : (1 + k).toNat ≤ 50 := by omega
      have hk1 : 1 ≤ (1 + k).toNat := by omega
      have p17' : PenAt c q (261 + 300 * i + 22) H17 := p17.mono (by omega)
      refine lc_range (lo := 0) (n := (1 + k).toNat) (fun j H' => ∃ (ts : List Addr) (dss : List (List Int)), dss.length = j ∧ (∀ ds ∈ dss, BitL rs.length ds) ∧ Sm q H17 H' ∧ PenAt c q (261 + 300 * i + 22 + 3 * j) H' ∧ H' D = some (.lst (ts.map V.ref)) ∧ Paired (fun t (ds : List Int) => H' t = some (.tup (ds.map V.int))) ts dss)
        ⟨[], [], rfl, fun _ h => absurd h List.not_mem_nil, (Sm.refl H17).new hD, p17'.upd hD, upd_same, .nil⟩ ?_ ?_
      · rintro j H' hj ⟨ts, dss, rfl, hds, s18, p18, g18, hts⟩
        have htl : ts.length = dss.length := hts.length
        refine ⟨rfl, _, rfl, ((rs.length : Nat) : Int), rfl, by omega, by omega, fun D2 hD2 => ?_⟩
        have hD2q := p18.ne_none hD2
        refine lc_range (lo := 0) (n := ((rs.length : Nat) : Int).toNat) (fun jj H'' => ∃ ds : List Int, ds.length = jj ∧ (∀ d ∈ ds, d = 0 ∨ d = 1) ∧ Sm q H' H'' ∧ PenAt c q (261 + 300 * i + 22 + 3 * dss.length + jj) H'' ∧ H'' D2 = some (.lst (ds.map V.int)))
          ⟨[], rfl, fun _ h => absurd h List.not_mem_nil, (Sm.refl H').new hD2, p18.upd hD2, upd_same⟩ ?_ ?_
        · rintro jj H'' hjj ⟨ds, rfl, hd01, s19, p19, g19⟩
          refine ⟨rfl, _, rfl, c, q, _, 2, rfl, p19, by omega, by decide, by decide, fun H20 r s20 p20 r0 r1 => ?_⟩
          refine ⟨_, s20 _ _ hD2q g19, by rw [List.length_map]; exact small1000 (by omega), ds ++ [r], by simp, fun d hd2 => ?_, (s19.trans s20).new hD2, p20.new p18 hD2, by rw [upd_same, List.map_append] <;> rfl⟩
          rcases List.mem_append.mp hd2 with hd2 | hd2
          · exact hd01 d hd2
          · rw [List.mem_singleton.mp hd2]
            omega
        rintro H'' ⟨ds, hdl, hd01, s19, p19, g19⟩
        have hdl2 : ds.length = rs.length := by omega
        refine ⟨D2, _, rfl, .inl ⟨SqL.of g19, fun t2 ht2 => ?_⟩⟩
        have st2 : Sm q H' (upd H'' t2 (.tup (ds.map V.int))) := s19.trans ((Sm.refl H'').new ht2)
        have gD := st2 _ _ hDq g18
        refine ⟨_, gD, by rw [List.length_map]; exact small1000 (by omega), ts ++ [t2], dss ++ [ds], by simp, fun d hd2 => ?_, (s18.trans st2).new hD, ((p19.mono (by omega)).upd ht2).new p17 hD, by rw [upd_same, List.map_append] <;> rfl, ?_⟩
        · rcases List.mem_append.mp hd2 with hd2 | hd2
          · exact hds d hd2
          · rw [List.mem_singleton.mp hd2]
            exact ⟨hdl2, hd01⟩
        · refine paired_snoc (L2.Paired.mapP hts fun t3 ds3 h3 => ?_) ?_
          · have h4 := st2.tup p18 h3
            rw [upd_ne (ne_of h4 gD (by intro z; cases z))]
            exact h4
          · have h4 : upd H'' t2 (.tup (ds.map V.int)) t2 = some (.tup (ds.map V.int)) := upd_same
            rw [upd_ne (ne_of h4 gD (by intro z; cases z))]
            exact h4
      rintro H18 ⟨ts, dss, hdn, hds, s18, p18, g18, hts⟩
      have htl : ts.length = dss.length := hts.length
      -- row_here
      have p18' : PenAt c q (261 + 300 * i + 172) H18 := p18.mono (by omega)
      have s1618 := s17.trans s18
      have hlc18 := s1618.lst p16 hlc16
      refine ⟨_, rfl, D, rfl, ⟨_, SqL.of g18⟩, fun D3 hD3 => ?_⟩
      have hD3q := p18.ne_none hD3
      refine lc_list (K := K) (a := D) (xs := ts.map V.ref) (fun j H' => ∃ (bs : List Addr) (L : List Letter), L.length = j ∧ (∀ l ∈ L, BitL rs.length l.1 ∧ NameL l.2) ∧ Sm q H18 H' ∧ PenAt c q (261 + 300 * i + 172 + j) H' ∧ H' D3 = some (.lst (bs.map V.ref)) ∧ Paired (LetAt H') bs L)
        ⟨[], [], rfl, fun _ h => absurd h List.not_mem_nil, (Sm.refl H18).new hD3, p18'.upd hD3, upd_same, .nil⟩ (fun j H' _ h => by obtain ⟨_, _, _, _, h, _⟩ := h; exact SqL.of (h.lst p18 g18)) ?_ ?_
      · rintro j x H' hj ⟨bs, L, rfl, hLk, s19, p19, g19, hps⟩
        obtain ⟨t2, ht2, rfl⟩ : ∃ t, ts[L.length]? = some t ∧ x = V.ref t := by
          rw [List.getElem?_map] at hj
          cases e : ts[L.length]? with
          | none => rw [e] at hj; cases hj
          | some t => rw [e] at hj; exact ⟨t, rfl, (Option.some.inj hj).symm⟩
        have hjl : L.length < ts.length := by
          rcases Nat.lt_or_ge L.length ts.length with z | z
          · exact z
          · rw [List.getElem?_eq_none z] at ht2; cases ht2
        have hbl : bs.length = L.length := hps.length
        obtain ⟨ds, hds2, hdt⟩ := paired_get hts ht2
        refine ⟨rfl, _, rfl, _, rfl, _, rfl, c, q, lc, _, _, rfl, p19, by omega, SqL.of (s19.lst p18 hlc18), by rw [List.length_map]; exact gd.c1, by rw [List.length_map]; have := gd.c3; omega, fun H20 y s20 p20 hy => ?_⟩
        obtain ⟨cl, hcl, rfl⟩ := List.mem_map.mp hy
        refine ⟨by show 2 ≤ sizeLine; decide, fun b hb => ?_⟩
        have st : Sm q H' (upd H20 b (.tup [.ref t2, tx cl])) := s20.trans ((Sm.refl H20).new hb)
        have gD := st _ _ hD3q g19
        refine ⟨_, gD, by rw [List.length_map]; exact small1000 (by omega), bs ++ [b], L ++ [(ds, cl)], by simp, fun l hl2 => ?_, (s19.trans st).new hD3, (p20.upd hb).new p18 hD3, by rw [upd_same, List.map_append] <;> rfl, ?_⟩
        · rcases List.mem_append.mp hl2 with hl2 | hl2
          · exact hLk l hl2
          · rw [List.mem_singleton.mp hl2]
            exact ⟨hds ds (List.mem_of_getElem? hds2), gd.cn cl hcl⟩
        · exact paired_snoc (L2.Paired.mapP hps fun _ _ z => (z.sm st p19).lst gD) (LetAt.lst ⟨t2, upd_same, (s19.trans st).tup p18 hdt⟩ gD)
      rintro H19 ⟨bs, L, hLl, hLk, s19, p19, g19, hps⟩
      rw [List.length_map] at hLl p19
      refine ⟨D3, _, rfl, .inl ⟨SqL.of g19, fun rr hrr => ?_⟩⟩
      have S20 := same_upd (o := .tup (bs.map V.ref)) hrr
      have hrow : RowAt (upd H19 rr (.tup (bs.map V.ref))) rr L := ⟨bs, upd_same, L2.Paired.mapP hps fun _ _ z => z.same S20⟩
      have hLb : BitRow rs.length L := fun l hl2 => (hLk l hl2).1
      have s1620 := (s1618.trans s19).trans (Sm.of (q := q) S20)
      have p20 : PenAt c q (261 + 300 * i + 230) (upd H19 rr (.tup (bs.map V.ref))) := (p19.mono (by omega)).upd hrr
      generalize upd H19 rr (.tup (bs.map V.ref)) = H20 at hrow s1620 p20 ⊢
      clear S20 hrr hps g19 p19 s19 hD3q hD3 hlc18 p18' hts g18 p18 s18 hds s1618 p17' hDq hD p17 s17 hLk
      have ht20 := s1620.tup p16 ht16
      have hdue20 := hdue16.sm s1620 p16
      have hL1 : 0 < L.length := by omega
      have hL60 : L.length ≤ 60 := by omega
      -- numbers
      refine ⟨_, rfl, ((rs.length : Nat) : Int), rfl, by omega, by omega, fun D4 hD4 => ?_⟩
      refine lc_range (lo := 0) (n := ((rs.length : Nat) : Int).toNat) (fun j H' => Same H20 H' ∧ H' D4 = some (.lst ((TgM.numsOf L j).map V.int))) ⟨same_upd hD4, upd_same⟩ ?_ ?_
      · rintro j H' hj ⟨s21, g21⟩
        rw [Int.zero_add]
        refine ⟨rfl, _, rfl, _, rfl, rr, L, rs.length, j, rfl, hrow.same s21, hLb, by omega, hL60, fun H'' s22 => ⟨_, s22 _ _ g21, ?_, same_new (s21.trans s22) hD4, ?_⟩⟩
        · unfold TgM.numsOf
          rw [List.length_map, List.length_map, List.length_range]
          exact small1000 (by omega)
        · unfold TgM.numsOf
          rw [upd_same, List.range_succ, List.map_append, List.map_append]
          rfl
      rintro H21 ⟨s21, g21⟩
      rw [Int.toNat_natCast] at g21
      refine ⟨D4, _, rfl, .inl ⟨SqL.of g21, fun tn htn => ?_⟩⟩
      have S22 := s21.trans (same_upd (o := .tup ((TgM.numsOf L rs.length).map V.int)) htn)
      have hnum : upd H21 tn (.tup ((TgM.numsOf L rs.length).map V.int)) tn = some (.tup ((TgM.numsOf L rs.length).map V.int)) := upd_same
      generalize upd H21 tn (.tup ((TgM.numsOf L rs.length).map V.int)) = H22 at S22 hnum ⊢
      have hrow22 := hrow.same S22
      have ht22 := S22 _ _ ht20
      have hdue22 := hdue20.same S22
      have p22 := p20.same S22
      have s1622 := s1620.trans (Sm.of (q := q) S22)
      clear S22 htn g21 s21 hD4 hrow ht20 hdue20 p20 s1620
      -- values_of(row_here) != numbers or steps_told(..) != (numbers, values)
      refine ⟨fun σ H23 => σ = [some (.ref a), some (.ref q), some (.ref d), some (.int (rs.length : Nat)), some (.ref lc), some (.ref p), some (.int (0 + (i : Int))), some (.ref tv), some (.ref due), some (.ref told), some (.ref D), some (.ref rr), some (.ref tn), none, none, none, none, none, none] ∧ Same H22 H23, ?_, ?_⟩
      · refine ⟨_, rfl, rr, L, rs.length, rfl, hrow22, hLb, hL1, hL60, by omega, fun H23 t2 s23 h2 => ?_⟩
        refine ⟨_, rfl, intsPy _, intsPy _, dp_tupI h2, dp_tupI (s23 _ _ hnum), (lay_ints (k := 0) _).shaped (by decide), (lay_ints (k := 0) _).shaped (by decide), _, rfl, ?_⟩
        rw [(lay_ints (k := 0) _).refl]
        refine iteF ⟨_, rfl, _, rfl, _, rfl, _, rfl, _, rfl, by show 4 ≤ sizeLine; decide, fun l4 hl4 => ?_⟩
        have S24 := s23.trans (same_upd (o := .lst [.ref due, .ref rr, .ref due, .ref due]) hl4)
        have g24 := upd_same (H := H23) (a := l4) (o := .lst [.ref due, .ref rr, .ref due, .ref due])
        generalize upd H23 l4 (.lst [.ref due, .ref rr, .ref due, .ref due]) = H24 at S24 g24 ⊢
        refine ⟨.ref p, l4, due, rr, due, due, L, Ld, rs.length, rfl, g24, ⟨hrow22.same S24, hLb, hL1, hL60, by omega⟩, ⟨hdue22.same S24, hLbit, by omega, by omega, by omega⟩, fun H25 t5 t1 t3 s25 h5 h1 h3 => ?_⟩
        rw [hLnum] at h3
        refine ⟨_, rfl, _, rfl, by show 2 ≤ sizeLine; decide, fun t6 ht6 => ?_⟩
        have S26 := same_upd (o := .tup [.ref tn, .ref tv]) ht6
        have s2226 := (S24.trans s25).trans S26
        refine ⟨.tuple [intsPy (TgM.numsOf L rs.length), intsPy ns], .tuple [intsPy (TgM.numsOf L rs.length), intsPy ns], .tup (SqT.of (S26 _ _ h5)) (.cons (dp_tupI (S26 _ _ h1)) (.cons (dp_tupI (S26 _ _ h3)) .nil)),
          .tup (SqT.of upd_same) (.cons (dp_tupI (s2226 _ _ hnum)) (.cons (dp_tupI (s2226 _ _ ht22)) .nil)), (lay_two (k := 0) _ _).shaped (by decide), (lay_two (k := 0) _ _).shaped (by decide), _, rfl, ?_⟩
        rw [(lay_two (k := 0) _ _).refl]
        exact iteF ⟨rfl, s2226⟩
      rintro σ H23 ⟨rfl, s23⟩
      -- steps_told(program, (row_here,)) != () or steps_told(program, []) != ()
      refine ⟨_, rfl, _, rfl, by show 1 ≤ sizeLine; decide, fun t7 ht7 => ?_⟩
      have S24 := s23.trans (same_upd (o := .tup [.ref rr]) ht7)
      have g24 := upd_same (H := H23) (a := t7) (o := .tup [.ref rr])
      generalize upd H23 t7 (.tup [.ref rr]) = H24 at S24 g24 ⊢
      refine ⟨.ref p, t7, .ref rr, rfl, g24, fun H25 t8 s25 h8 => ⟨Nat.zero_le _, fun t9 ht9 => ?_⟩⟩
      have S26 := same_upd (o := .tup []) ht9
      refine ⟨.tuple [], .tuple [], .tup (SqT.of (S26 _ _ h8)) .nil, .tup (SqT.of upd_same) .nil, (lay_nil (k := 0)).shaped (by decide), (lay_nil (k := 0)).shaped (by decide), _, rfl, ?_⟩
      rw [(lay_nil (k := 0)).refl]
      have S2226 := (S24.trans s25).trans S26
      generalize upd H25 t9 (.tup []) = H26 at S2226 ⊢
      refine iteF ⟨_, rfl, Nat.zero_le _, fun l9 hl9 => ?_⟩
      have S27 := S2226.trans (same_upd (o := .lst []) hl9)
      have g27 := upd_same (H := H26) (a := l9) (o := .lst [])
      generalize upd H26 l9 (.lst []) = H27 at S27 g27 ⊢
      refine ⟨.ref p, l9, rfl, g27, fun H28 t10 s28 h10 => ⟨Nat.zero_le _, fun t11 ht11 => ?_⟩⟩
      have S29 := same_upd (o := .tup []) ht11
      refine ⟨.tuple [], .tuple [], .tup (SqT.of (S29 _ _ h10)) .nil, .tup (SqT.of upd_same) .nil, (lay_nil (k := 0)).shaped (by decide), (lay_nil (k := 0)).shaped (by decide), _, rfl, ?_⟩
      rw [(lay_nil (k := 0)).refl]
      have Send := (S27.trans s28).trans S29
      have pend := p22.same Send
      refine iteF ⟨_, _, _, _, _, _, _, rfl, (sm.trans sL16).trans (s1622.trans (Sm.of Send)), pend.mono (by omega), fun _ => ⟨tv, ns, rfl, Send _ _ ht22, hl, hv⟩⟩
    · rintro σ HL ⟨v6, v7, v8, v9, v10, v11, v12, rfl, sm, pn, hlast⟩
      obtain ⟨tv, ns, rfl, h1, h2, h3⟩ := hlast (by decide)
      exact ⟨v6, v8, v9, v10, v11, v12, tv, ns, rfl, sm, pn, h1, h2, h3⟩
  · rintro σ HL ⟨v6, v8, v9, v10, v11, v12, tv, ns, rfl, sm, pn, ht, hl, hv⟩
    have prL := pr5.sm sm p5
    have htbL := sm _ _ nPq htb5
    obtain ⟨v0, r, rfl⟩ : ∃ v0 r, ns = v0 :: r := by
      cases ns with
      | nil => rw [List.length_nil] at hl; omega
      | cons v0 r => exact ⟨v0, r, rfl⟩
    have hrl : r.length + 1 = rs.length := hl
    have hrv : ∀ v ∈ r, numOk v := fun v hv2 => hv v (List.mem_cons_of_mem _ hv2)
    have hcut : cutV ((v0 :: r).map V.int) (some 1) none = r.map V.int := cut_from _ _
    have hnw : ¬ (HT.sIx ((v0 :: r).map V.int).length 0 (some 1) = 0 ∧ HT.sIx ((v0 :: r).map V.int).length ((v0 :: r).map V.int).length none = ((v0 :: r).map V.int).length) := fun h => by
      have h1 : HT.sIx ((v0 :: r).map V.int).length 0 (some (1 : Int)) = 1 := sIx_pos _ 0 1 (by rw [List.length_map, List.length_cons]; omega)
      have h2 := h.1
      rw [h1] at h2
      cases h2
    have hr10 : (r.map V.int).length ≤ 3 := by rw [List.length_map]; omega
    -- odd
    refine ⟨_, rfl, _, rfl, by show 1 ≤ sizeLine; decide, fun z1 hz1 => ?_⟩
    have S1 := same_upd (o := .tup [.int 0]) hz1
    refine ⟨tv, z1, _, _, rfl, rfl, S1 _ _ ht, upd_same, List.cons_ne_nil _ _, by rw [List.length_map, List.length_cons, sizeLine_eq]; show r.length + 1 + 1 ≤ 16777216; omega, fun a1 H1 s1 g1 => ?_⟩
    have SA := S1.trans s1
    clear S1 s1 hz1
    refine ⟨_, rfl, by show 1 ≤ sizeLine; decide, fun z2 hz2 => ?_⟩
    have S2 := same_upd (o := .tup [.int (-1)]) hz2
    have gz2 := upd_same (H := H1) (a := z2) (o := .tup [.int (-1)])
    refine ⟨_, rfl, _, rfl, tv, _, rfl, SqT.of (S2 _ _ (SA _ _ ht)), hnw, fun z3 hz3 => ?_⟩
    rw [hcut]
    have S3 := same_upd (o := .tup (r.map V.int)) hz3
    refine ⟨z2, z3, _, _, rfl, rfl, S3 _ _ gz2, upd_same, List.cons_ne_nil _ _, by rw [sizeLine_eq]; show 1 + (r.map V.int).length ≤ 16777216; omega, fun a2 H2 s2 g2 => ?_⟩
    have SB := (S2.trans S3).trans s2
    clear S2 S3 s2 gz2 hz2 hz3
    refine ⟨_, _, rfl, rfl, ⟨by decide, by decide, by decide⟩, by show 1 ≤ sizeLine; decide, fun z4 hz4 => ?_⟩
    have S4 := same_upd (o := .tup [.int (2 ^ (40 : Int).toNat)]) hz4
    have gz4 := upd_same (H := H2) (a := z4) (o := .tup [.int (2 ^ (40 : Int).toNat)])
    refine ⟨_, rfl, _, rfl, tv, _, rfl, SqT.of (S4 _ _ (SB _ _ (SA _ _ ht))), hnw, fun z5 hz5 => ?_⟩
    rw [hcut]
    have S5 := same_upd (o := .tup (r.map V.int)) hz5
    refine ⟨z4, z5, _, _, rfl, rfl, S5 _ _ gz4, upd_same, List.cons_ne_nil _ _, by rw [sizeLine_eq]; show 1 + (r.map V.int).length ≤ 16777216; omega, fun a3 H3 s3 g3 => ?_⟩
    have SC := (S4.trans S5).trans s3
    clear S4 S5 s3 gz4 hz4 hz5
    refine ⟨by show 1 ≤ sizeLine; decide, fun z6 hz6 => ?_⟩
    have S6 := same_upd (o := .tup [.str "1"]) hz6
    have gz6 := upd_same (H := H3) (a := z6) (o := .tup [.str "1"])
    refine ⟨_, rfl, _, rfl, tv, _, rfl, SqT.of (S6 _ _ (SC _ _ (SB _ _ (SA _ _ ht)))), hnw, fun z7 hz7 => ?_⟩
    rw [hcut]
    have S7 := same_upd (o := .tup (r.map V.int)) hz7
    refine ⟨z6, z7, _, _, rfl, rfl, S7 _ _ gz6, upd_same, List.cons_ne_nil _ _, by rw [sizeLine_eq]; show 1 + (r.map V.int).length ≤ 16777216; omega, fun a4 H4 s4 g4 => ?_⟩
    have SD := (S6.trans S7).trans s4
    clear S6 S7 s4 gz6 hz6 hz7
    have g1 := SD _ _ (SC _ _ (SB _ _ g1))
    have g2 := SD _ _ (SC _ _ g2)
    have g3 := SD _ _ g3
    have S14 := SA.trans (SB.trans (SC.trans SD))
    refine ⟨by show 5 ≤ sizeLine; decide, fun pl hpl => ?_⟩
    have S8 := same_upd (o := .lst [.non, .ref a1, .ref a2, .ref a3, .ref a4]) hpl
    have S18 := S14.trans S8
    have p18 := pn.same S18
    refine ⟨c, q, pl, _, _, rfl, p18, by omega, SqL.of upd_same, by show 0 < 5; decide, by show 5 ≤ 1000; decide, fun H9 x s9 p9 hx => ?_⟩
    obtain ⟨D, hodd⟩ : ∃ D, OddIs H9 rs.length x D := by
      have kt : ∀ {t : Addr} {xs : List V}, H4 t = some (.tup xs) → H9 t = some (.tup xs) := fun h => s9.tup p18 (S8 _ _ h)
      simp only [List.mem_cons, List.not_mem_nil, or_false] at hx
      rcases hx with rfl | rfl | rfl | rfl | rfl
      · exact ⟨_, .inl ⟨rfl, rfl⟩⟩
      · refine ⟨_, .inr ⟨a1, _, rfl, kt g1, .inl ⟨?_, fun v hv2 => ?_⟩, rfl⟩⟩
        · rw [List.length_append, List.length_map, List.length_cons]
          show r.length + 1 + 1 = _
          omega
        · rcases List.mem_append.mp hv2 with hv2 | hv2
          · obtain ⟨i, hi, rfl⟩ := List.mem_map.mp hv2
            exact ⟨i, rfl, hv i hi⟩
          · rw [List.mem_singleton.mp hv2]
            exact ⟨0, rfl, by decide, by decide⟩
      · exact ⟨_, .inr ⟨a2, _, rfl, kt g2, .inr ⟨_, r, rfl, hrl, hrv, .inl rfl⟩, rfl⟩⟩
      · exact ⟨_, .inr ⟨a3, _, rfl, kt g3, .inr ⟨_, r, rfl, hrl, hrv, .inr (.inl (congrArg V.int (by decide)))⟩, rfl⟩⟩
      · exact ⟨_, .inr ⟨a4, _, rfl, kt g4, .inr ⟨_, r, rfl, hrl, hrv, .inr (.inr rfl)⟩, rfl⟩⟩
    have pr9 := (prL.same S18).sm s9 p18
    have htb9 := s9 _ _ nPq (S18 _ _ htbL)
    clear S8 S18 p18 p9 s9 hx hpl S14 g1 g2 g3 g4 SA SB SC SD
    -- _law_refused(lambda: first_row(..))
    refine ⟨fun pp hpp => ?_, fun HA eA tA Qn => ?_⟩
    · rw [List.mem_singleton.mp hpp]
      exact LamX.TabS.nil htb9
    have oddA := hodd.ext eA
    have prA := pr9.ext eA
    refine ⟨_, rfl, _, rfl, p, x, rs, cs, c0, none, rfl, prA, hc0, oddA.nval, hm3, (fun _ z => by cases z), fun _ HB dB sB hdn hdB => ?_⟩
    have eB : LamX.ExtN HA HB := LamX.ExtN.of sB
    have oddB := oddA.ext eB
    obtain ⟨b1, b2, b3, b4, b5, b6, hasc⟩ := oddB.all (K := K) hm3
    refine ⟨rfl, dB, x, D, rfl, hdB, b1, b2, b3, b4, b5, b6, fun t1 ht1 => ⟨by show 1 ≤ sizeLine; decide, fun fl hfl => ?_⟩⟩
    have SC1 := same_upd (o := .tup [.str "values", .str D.shown]) ht1
    have SC2 := same_upd (o := .lst [.ref t1]) hfl
    have gt1 := SC2 _ _ (upd_same (H := HB) (a := t1) (o := .tup [.str "values", .str D.shown]))
    have gfl := upd_same (H := upd HB t1 (.tup [.str "values", .str D.shown])) (a := fl) (o := .lst [.ref t1])
    have SC := sB.trans (SC1.trans SC2)
    generalize upd (upd HB t1 (.tup [.str "values", .str D.shown])) fl (.lst [.ref t1]) = HC at SC gt1 gfl ⊢
    have tC := tA.ext (fun b o e => SC b o e)
    have oddC := oddA.ext (LamX.ExtN.of SC)
    have prC := prA.same SC
    clear SC1 SC2 ht1 hfl b1 b2 b3 b4 b5 b6 oddB eB hdB hdn sB
    -- found.append(_law_refused(lambda: sweeps_of(..)))
    refine ⟨_, rfl, .inl ⟨rfl, _, SqL.of gfl⟩, tC, fun HD eD tD Qn2 => ?_⟩
    have oddD := oddC.ext eD
    have prD := prC.ext eD
    have gflD := eD _ _ gfl (fun _ z => by cases z)
    have gt1D := eD _ _ gt1 (fun _ z => by cases z)
    refine ⟨_, rfl, _, rfl, p, x, rs, cs, c0, rfl, prD, hc0, oddD.nval, hm3, fun HE dE sE hdn hdE => ?_⟩
    have oddE := oddD.ext (LamX.ExtN.of sE)
    obtain ⟨b1, b2, b3, b4, b5, b6, _⟩ := oddE.all (K := K) hm3
    refine ⟨rfl, dE, x, D, rfl, hdE, b1, b2, b3, b4, b5, b6, fun t2 ht2 => ?_⟩
    have SF := sE.trans (same_upd (o := .tup [.str "values", .str D.shown]) ht2)
    have gt2 := upd_same (H := HE) (a := t2) (o := .tup [.str "values", .str D.shown])
    have gflF := SF _ _ gflD
    have gt1F := SF _ _ gt1D
    generalize upd HE t2 (.tup [.str "values", .str D.shown]) = HF at SF gt2 gflF gt1F ⊢
    refine ⟨fl, _, _, rfl, rfl, gflF, small1000 (by show 1 ≤ 1000; decide), ?_⟩
    have oddF := oddD.ext (LamX.ExtN.of SF)
    have kG : ∀ {t : Addr} {xs : List V}, HF t = some (.tup xs) → upd HF fl (.lst ([.ref t1] ++ [.ref t2])) t = some (.tup xs) := fun h => by
      rw [upd_ne (ne_of h gflF (by intro z; cases z))]
      exact h
    have gt1G := kG gt1F
    have gt2G := kG gt2
    have gflG := upd_same (H := HF) (a := fl) (o := .lst ([.ref t1] ++ [.ref t2]))
    have oddG : OddIs (upd HF fl (.lst ([.ref t1] ++ [.ref t2]))) rs.length x D := by
      rcases oddF with h | ⟨t, xs, h1, h2, h3⟩
      · exact .inl h
      · exact .inr ⟨t, xs, h1, kG h2, h3⟩
    generalize upd HF fl (.lst ([.ref t1] ++ [.ref t2])) = HG at gt1G gt2G gflG oddG ⊢
    -- found == [("values", repr(odd))] * 2
    obtain ⟨e1, e2, e3, e4, e5, e6, _⟩ := oddG.all (K := K) hm3
    refine ⟨_, rfl, _, rfl, x, D, rfl, e1, e2, e3, e4, e5, e6, by show 2 ≤ sizeLine; decide, fun t3 ht3 => ⟨by show 1 ≤ sizeLine; decide, fun l3 hl3 => ?_⟩⟩
    have SG := same_upd (o := .tup [.str "values", .str D.shown]) ht3
    have SG2 := same_upd (o := .lst [.ref t3]) hl3
    have gt3 := SG2 _ _ (upd_same (H := HG) (a := t3) (o := .tup [.str "values", .str D.shown]))
    have gl3 := upd_same (H := upd HG t3 (.tup [.str "values", .str D.shown])) (a := l3) (o := .lst [.ref t3])
    have SH := SG.trans SG2
    generalize upd (upd HG t3 (.tup [.str "values", .str D.shown])) l3 (.lst [.ref t3]) = HH at SH gt3 gl3 ⊢
    refine ⟨l3, 2, _, rfl, rfl, gl3, by decide, by decide, by show 1 * 2 ≤ sizeLine; decide, fun l4 hl4 => ?_⟩
    have SI := same_upd (o := .lst (List.replicate (2 : Int).toNat [V.ref t3]).flatten) hl4
    have gl4 := upd_same (H := HH) (a := l4) (o := .lst (List.replicate (2 : Int).toNat [V.ref t3]).flatten)
    have e7 : (List.replicate (2 : Int).toNat [V.ref t3]).flatten = [V.ref t3, V.ref t3] := rfl
    rw [e7] at SI gl4 ⊢
    have SGI := SH.trans SI
    refine ⟨.list [pairPy D.shown, pairPy D.shown], .list [pairPy D.shown, pairPy D.shown], .lst (SqL.of (SGI _ _ gflG)) (.cons (dp_pair (SGI _ _ gt1G)) (.cons (dp_pair (SGI _ _ gt2G)) .nil)), .lst (SqL.of gl4) (.cons (dp_pair (SI _ _ gt3)) (.cons (dp_pair (SI _ _ gt3)) .nil)),
      (lay_pairs hasc).shaped (by decide), (lay_pairs hasc).shaped (by decide), ?_⟩
    rw [(lay_pairs hasc).refl]
    exact go _
end
end Tg

-- part KH
set_option Elab.async false
set_option linter.all false
set_option maxRecDepth 100000
set_option maxHeartbeats 0
/-! ### the head: facts by names, one run of the top -/
namespace TgH
open PySem PySem.Spec PyProof.Rows L2
open Tg (top)
def dTab : List (Str × Nat) := [(("is_whole" : Str), 7), (("is_count" : Str), 8), (("is_list" : Str), 9), (("is_name" : Str), 10), (("need_text" : Str), 15), (("text_lines" : Str), 16), (("word_at" : Str), 17), (("no_more" : Str), 18), (("names_of_line" : Str), 19), (("told_names" : Str), 20), (("place_of" : Str), 21), (("read_order" : Str), 22), (("read_mark" : Str), 23), (("need_values" : Str), 26), (("first_row" : Str), 38), (("values_of" : Str), 39), (("steps_told" : Str), 40), (("sweeps_of" : Str), 48), (("_law_pen" : Str), 50), (("_law_draw" : Str), 51), (("_law_pick" : Str), 52), (("_law_name" : Str), 53), (("_law_names" : Str), 54), (("_law_program" : Str), 55), (("_law_loop" : Str), 56), (("_law_any_program" : Str), 57), (("_law_marks" : Str), 58), (("_law_order_words" : Str), 59), (("_law_program_lines" : Str), 60), (("_law_text_of" : Str), 61), (("_law_some_values" : Str), 62), (("_law_digit" : Str), 63), (("_law_power_two" : Str), 64), (("_law_digits" : Str), 65), (("_law_row" : Str), 66), (("_law_refused" : Str), 67), (("_law_total" : Str), 68), (("law" : Str), 69)]
def dOf (p : Str × Nat) : He.DefD := ⟨(p.1, none), p.1, p.1, defArgs (top p.2), defBody (top p.2), defScope (top p.2), [], []⟩
def dProg : He.DefD := ⟨("Program", some "__init__"), "__init__", "Program.__init__", defArgs (inClass (top 24) 0), defBody (inClass (top 24) 0), defScope (inClass (top 24) 0), [], []⟩
def dBad : He.DefD := ⟨("BadNumber", some "__init__"), "__init__", "BadNumber.__init__", defArgs (inClass (top 5) 0), defBody (inClass (top 5) 0), defScope (inClass (top 5) 0), [], []⟩
def fn : List He.DefD := dTab.map dOf ++ [dProg, dBad]
def frees : List Str := [("isinstance" : Str), ("int" : Str), ("bool" : Str), ("list" : Str), ("tuple" : Str), ("str" : Str), ("len" : Str), ("all" : Str), ("range" : Str), ("enumerate" : Str), ("max" : Str), ("min" : Str), ("sum" : Str), ("repr" : Str)]
def fa : List He.Fa := dTab.map (fun p => He.Fa.glo p.1) ++ frees.map He.Fa.free ++
  [.glo "KINDS", .glo "Program", .glo "BadNumber", .int "GREAT" 1099511627776, .str "SMALL" "abcdefghijklmnopqrstuvwxyz", .str "SIGNS" "abcdefghijklmnopqrstuvwxyz0123456789",
   .cls "Program", .noat "Program" "text", .noat "Program" "registers", .noat "Program" "colours", .noat "Program" "orders", .mkr "Program",
   .noat "BadNumber" "what", .noat "BadNumber" "number", .exm "BadNumber" "BadNumber" true]
def kinds : List (Str × Str) := [(("inc" : Str), ("R" : Str)), (("dec" : Str), ("R" : Str)), (("clear" : Str), ("R" : Str)), (("add" : Str), ("RR" : Str)), (("copy" : Str), ("RR" : Str)), (("jump" : Str), ("L" : Str)), (("ifzero" : Str), ("RL" : Str)), (("ifsame" : Str), ("RRL" : Str)), (("paint" : Str), ("C" : Str)), (("end" : Str), ("" : Str))]
def ts : List He.Tab := [(fun K => He.ga K "KINDS", kinds.map (·.1))]
def tf : List He.Defn := [(("law" : Str), none)]
def ex (K : PySem.W.Frag) : Bool := He.valsB K (He.ga K "KINDS") (kinds.map fun q => (q.1, He.Dv.str q.2)) && Tg.oexB K (He.ga K "BadNumber") && L2.xfB K (He.ga K "BadNumber")
def loose : List Str := ([("SMALL" : Str), ("SIGNS" : Str), ("TileError" : Str), ("BadText" : Str), ("BadNumber" : Str), ("BadTile" : Str), ("is_whole" : Str), ("is_count" : Str), ("is_list" : Str), ("is_name" : Str), ("is_data" : Str), ("KINDS" : Str), ("GREAT" : Str), ("need_text" : Str), ("text_lines" : Str), ("word_at" : Str), ("no_more" : Str), ("names_of_line" : Str), ("told_names" : Str), ("place_of" : Str), ("read_order" : Str), ("read_mark" : Str), ("Program" : Str), ("is_over" : Str), ("need_values" : Str), ("WAYS" : Str), ("is_thing" : Str), ("is_pair" : Str), ("is_step" : Str), ("is_turn" : Str)] : List Str) ++ ([("by_repr" : Str), ("Sweeps" : Str), ("other_way" : Str), ("Reach" : Str), ("first_row" : Str), ("values_of" : Str), ("steps_told" : Str), ("with_digit" : Str), ("counted" : Str), ("rightward" : Str), ("leftward" : Str), ("turn_right" : Str), ("turn_left" : Str), ("letters_of_program" : Str), ("sweeps_of" : Str), ("_law_pen" : Str), ("_law_draw" : Str), ("_law_pick" : Str), ("_law_name" : Str), ("_law_names" : Str), ("_law_program" : Str), ("_law_loop" : Str), ("_law_any_program" : Str), ("_law_marks" : Str), ("_law_order_words" : Str), ("_law_program_lines" : Str), ("_law_text_of" : Str), ("_law_some_values" : Str), ("_law_digit" : Str), ("_law_power_two" : Str)] : List Str) ++ ([("_law_digits" : Str), ("_law_row" : Str), ("_law_refused" : Str), ("_law_total" : Str)] : List Str)
abbrev R : PySem.W.OpenRow := PySem.W.OpenLaw.row PySem.Challenge.rw_tilesregrow_k23_whole_rows_of_numbers
abbrev hk : PySem.W.Hook := He.hookX 5 fa fn ts tf ex
def ob (s : PySem.W.SharedT) : He.AlX := He.obsX 5 fa fn ts tf ex (HandSHeadRun.getT s)
theorem ob_eq (s : PySem.W.SharedT) : ob s = hk.obs s.abs := He.obsX_eq (HandSHeadRun.getT_eq s)
theorem runF (w : World) : HandSHeadRun.RunEq R (PySem.W.view R.prog [69]) hk ob 4000 loose (w.withFollow "special-get-raises" false) := by
  intro os
  kernel_rfl
theorem runT (w : World) : HandSHeadRun.RunEq R (PySem.W.view R.prog [69]) hk ob 4000 loose (w.withFollow "special-get-raises" true) := by
  intro os
  kernel_rfl
theorem run (w : World) : HandSHeadRun.RunEq R (PySem.W.view R.prog [69]) hk ob 4000 loose w :=
  PySem.W.byRow2 "special-get-raises" (P := fun w => HandSHeadRun.RunEq R (PySem.W.view R.prog [69]) hk ob 4000 loose w) runF runT w
end TgH

-- part KZ
set_option Elab.async false
set_option linter.all false
set_option maxRecDepth 100000
set_option maxHeartbeats 4000000
namespace Tg
open PySem PySem.Spec PyProof.Rows L2 TgM
/-! ### the module's facts from what the head tells -/
theorem tab_eq : TgH.dTab = defTab := rfl
theorem txt_of {K : PySem.W.Frag} {w : World} {h : Heap} {mg : Str → Option Value} (X : K.In h) (G : h.Ns mainGlobals mg) (c : He.SaysX TgH.fa TgH.fn TgH.ts TgH.tf TgH.ex w h K) : Txt K mg w := by
  have d := He.SaysT.d c.t
  have fact : ∀ f : He.Fa, f ∈ TgH.fa → f.ok K = true := fun f hf => He.SaysD.facts d hf
  have fa2 : ∀ f, f ∈ [He.Fa.glo "KINDS", .glo "Program", .glo "BadNumber", .int "GREAT" 1099511627776, .str "SMALL" "abcdefghijklmnopqrstuvwxyz", .str "SIGNS" "abcdefghijklmnopqrstuvwxyz0123456789", .cls "Program", .noat "Program" "text", .noat "Program" "registers", .noat "Program" "colours", .noat "Program" "orders", .mkr "Program", .noat "BadNumber" "what", .noat "BadNumber" "number", .exm "BadNumber" "BadNumber" true] → f.ok K = true := fun f hf => fact f (List.mem_append_right _ hf)
  have hex : (He.valsB K (He.ga K "KINDS") (TgH.kinds.map fun q => (q.1, He.Dv.str q.2)) && oexB K (He.ga K "BadNumber") && L2.xfB K (He.ga K "BadNumber")) = true := c.more
  obtain ⟨hex1, hex3⟩ := Bool.and_eq_true_iff.mp hex
  obtain ⟨hvals, hoex⟩ := Bool.and_eq_true_iff.mp hex1
  obtain ⟨ho1, ho2, ho3⟩ := oexB_ok hoex
  have dfs : ∀ p ∈ defTab, DefOk K mg p.1 (top p.2) := fun p hp => by
    refine ⟨He.glo_ok X G (fact (.glo p.1) (List.mem_append_left _ (List.mem_append_left _ (List.mem_map.mpr ⟨p, tab_eq ▸ hp, rfl⟩)))), ?_⟩
    exact He.SaysD.defs d (d := TgH.dOf p) (List.mem_append_left _ (List.mem_map.mpr ⟨p, tab_eq ▸ hp, rfl⟩))
  refine ⟨dfs, fun x hx => He.free_ok X G (fact (.free x) (List.mem_append_left _ (List.mem_append_right _ (List.mem_map.mpr ⟨x, hx, rfl⟩)))), He.int_ok X G (fa2 _ (by simp)), He.str_ok X G (fa2 _ (by simp)), He.str_ok X G (fa2 _ (by simp)), He.glo_ok X G (fa2 _ (by simp)), He.SaysT.tab c.t 0, fun q hq => ?_, He.glo_ok X G (fa2 _ (by simp)), He.cls_ok (fa2 _ (by simp)), fun f hf => ?_, He.mkr_ok (fa2 _ (by simp)),
    He.SaysD.defs d (d := TgH.dProg) (List.mem_append_right _ (by simp)), He.glo_ok X G (fa2 _ (by simp)), fun f hf => ?_, ho1, ho2, ho3, L2.xfB_ok hex3, He.exm_ok (fa2 _ (by simp)), He.SaysD.defs d (d := TgH.dBad) (List.mem_append_right _ (by simp))⟩
  · obtain ⟨u, h1, h2⟩ := He.valsB_ok hvals (q := (q.1, He.Dv.str q.2)) (List.mem_map.mpr ⟨q, hq, rfl⟩)
    exact ⟨u, h1, h2⟩
  · simp only [List.mem_cons, List.not_mem_nil, or_false] at hf
    rcases hf with rfl | rfl | rfl | rfl <;> exact He.noat_ok (fa2 _ (by simp))
  · simp only [List.mem_cons, List.not_mem_nil, or_false] at hf
    rcases hf with rfl | rfl
    · exact He.eqO_ok (fa2 (.noat "BadNumber" "what") (by simp))
    · exact He.eqO_ok (fa2 (.noat "BadNumber" "number") (by simp))
/-! ### the call of law as it stands: its one table, the call told at callerA itself -/
section
variable {P : Program} {w : World} {K : PySem.W.Frag} {mg mb : Str → Option Value} {fL a cL PL : Addr} {s1 : Shared} {vs : List Value} {ns : List Int}
/-- what is known of the state -/
structure At0 (K : PySem.W.Frag) (mg mb : Str → Option Value) (a cL PL : Addr) (s1 : Shared) (vs : List Value) (ns : List Int) : Prop where
  kin : K.In s1.heap
  glob : s1.heap.Ns mainGlobals mg
  blt : s1.heap.Ns builtinsNs mb
  boot : ∀ x : Str, x ≠ "__name__" → mb x = bootBuiltins x
  lim : s1.heap.NoLimit
  gens : s1.gens = #[]
  tab : s1.heap.get? PL = some { cls := .none, data := .fields #[] }
  out : K.lookup PL = none
  code : PySem.W.CodeHd s1.heap cL PL
  bm : ∃ (m : Addr) (o : Obj), mg "__builtins__" = some (.ref m) ∧ m ≠ builtinsNs ∧ s1.heap.get? m = some o ∧ o.cls = .type "module" ∧ o.dict = some builtinsNs ∧ o.data = .plain
  scr : s1.heap.get? a = some { cls := .type "list", data := .seq vs.toArray }
  intz : IntsAre vs ns
  lenz : ns.length ≤ sizeLine
theorem At0.ne (z : At0 K mg mb a cL PL s1 vs ns) : a ≠ PL := fun e => by
  have q := z.tab
  rw [← e, z.scr] at q
  have q2 : Data.seq vs.toArray _ = Data.fields #[] := congrArg Obj.data (Option.some.inj q)
  cases q2
/-- an abstract heap that tells of the table, and perhaps of the script, no more -/
structure Hp0 (P : Program) (w : World) (K : PySem.W.Frag) (a PL : Addr) (s1 : Shared) (ns : List Int) (H : Hp) : Prop where
  tb : H PL = some (.tbl #[])
  few : ∀ b, H b = none ∨ b = PL ∨ ∃ o xs, H b = some (.frz o (.lst xs))
  sq : SqL K H a (ns.map V.int)
  ok : HOk P w H s1.heap
  only : ∀ b, H b ≠ none → b = a ∨ b = PL
  outK : H a ≠ none → K.lookup a = none
theorem call_core {H : Hp} (z : At0 K mg mb a cL PL s1 vs ns) (y : Hp0 P w K a PL s1 ns H)
    (F : ∀ base : Heap, Env0 P w K mg base callerA [] s1 H → LamX.TabB base mg cL PL → codeAny (model P w) callerA (.call (.ref fL) ⟨[.ref a], []⟩) (CR CX0 [] P w H s1 (fun v _ => v = .bl true) (fun _ _ _ => False)) s1) :
    codeAny (model P w) callerA (.call (.ref fL) ⟨[.ref a], []⟩) (fun r s' => r = .ok (.ret (.bool true)) ∧ OldK s1.heap s'.heap ∧ s'.os = s1.os ∧ AllBare s'.gens) s1 := by
  have keepB : ∀ {b : Addr} {o : Obj}, s1.heap.get? b = some o → H b = none → (hidT s1.heap H).get? b = some o := fun e n => hidT_get e n
  have untracked : ∀ {b : Addr} {o : Obj}, s1.heap.get? b = some o → (∀ us n, o.data ≠ .seq us n) → o.data ≠ .fields #[] → H b = none := fun {b o} e h1 h2 => by
    cases q : H b with
    | none => rfl
    | some u =>
      rcases y.only b (by rw [q]; simp) with rfl | rfl
      · rw [z.scr] at e
        cases e
        exact (h1 _ _ rfl).elim
      · rw [z.tab] at e
        cases e
        exact (h2 rfl).elim
  have dictN : ∀ {b : Addr} {o : Obj} {es : Array DictEntry} {ep : Nat}, s1.heap.get? b = some o → o.data = .dict es ep → H b = none := fun e d => untracked e (fun us n q => by rw [d] at q; cases q) (fun q => by rw [d] at q; cases q)
  have keepN : ∀ {b : Addr} {m : Str → Option Value}, s1.heap.Ns b m → (hidT s1.heap H).Ns b m := fun ⟨o, es, ep, e, d, r⟩ => ⟨o, es, ep, keepB e (dictN e d), d, r⟩
  have kinB : K.In (hidT s1.heap H) := fun b o e => keepB (z.kin b o e) (by
    cases q : H b with
    | none => rfl
    | some u =>
      rcases y.only b (by rw [q]; simp) with rfl | rfl
      · rw [y.outK (by rw [q]; simp)] at e
        cases e
      · rw [z.out] at e
        cases e)
  have modB : L2.Mod K mg (hidT s1.heap H) := ⟨kinB, keepN z.glob, ⟨mb, keepN z.blt, z.boot⟩, by
    obtain ⟨mc, h1, h2⟩ := z.lim
    exact ⟨mc, keepN h1, h2⟩⟩
  have tabB : LamX.TabB (hidT s1.heap H) mg cL PL := by
    refine ⟨?_, ?_, fun e => ?_⟩
    · obtain ⟨o, us, file, tf, flags, tg, inF, text, tt, e1, r1, r2, r3, r4, r5, r6, r7, r8, hne⟩ := z.code
      refine ⟨o, us, file, tf, flags, tg, inF, text, tt, keepB e1 (untracked e1 (fun us n q => by rw [r2] at q; cases q) (fun q => ?_)), r1, r2, r3, r4, r5, r6, r7, r8, hne⟩
      rw [r2] at q
      cases q
      simp at r3
    · obtain ⟨m, o, b1, b2, b3, b4, b5, b6⟩ := z.bm
      have n1 : m ≠ mainGlobals := fun q => by
        obtain ⟨o', es, ep, e, hd, _⟩ := z.glob
        rw [q, e] at b3
        cases b3
        rw [hd] at b6
        cases b6
      have n2 : m ≠ PL := fun q => by
        rw [q, z.tab] at b3
        cases b3
        cases b6
      exact ⟨m, o, b1, b2, n1, n2, keepB b3 (untracked b3 (fun us n q => by rw [b6] at q; cases q) (fun q => by rw [b6] at q; cases q)), b4, b5, b6⟩
    · obtain ⟨o, es, ep, e2, hd, _⟩ := z.glob
      rw [e, z.tab] at e2
      cases e2
      cases hd
  have e0 : Env0 P w K mg (hidT s1.heap H) callerA [] s1 H := ⟨rfl, modB, fun b o e => of_hidT e, Nat.le_of_eq (hidT_size _ _), trivial, fun b hb => absurd (show b ∈ ([] : List Addr) from hb) (by simp), y.ok, .of_eq z.gens⟩
  refine codeAny_mono (F _ e0 tabB) fun r s' h => ?_
  cases r with
  | error e => exact (show False from h).elim
  | ok fl =>
    cases fl with
    | next => exact False.elim h
    | brk => exact False.elim h
    | cont => exact False.elim h
    | ret u =>
      obtain ⟨v, H', os, bare, un, hok', rv, q⟩ := h
      have qv : v = .bl true := q
      subst qv
      obtain rfl : u = Value.bool true := rv
      have stays : ∀ b o, b ≠ PL → s1.heap.get? b = some o → s'.heap.get? b = some o := fun b o nb e => by
        cases hb : H b with
        | none => exact un.keep b o e hb (fun q => absurd (show b ∈ ([] : List Addr) from q) (by simp)) (by simp)
        | some u =>
          rcases y.few b with q | q | ⟨ob, xs, q⟩
          · rw [hb] at q
            cases q
          · exact absurd q nb
          · have q2 := un.frzs b ob _ q
            obtain ⟨e1, _⟩ := y.ok b _ q
            obtain ⟨e2, _⟩ := hok' b _ q2
            rw [e] at e1
            cases e1
            exact e2
      obtain ⟨more, hm0⟩ := un.tbls PL #[] y.tb
      have hm := hok' PL _ hm0
      refine ⟨rfl, ⟨fun b o e => ?_, fun b o e => ?_⟩, os, bare⟩
      · by_cases hb : b = PL
        · subst hb
          rw [z.tab] at e
          cases e
          exact .inr (.inl ⟨(z.code.tab z.tab).isCodeTable, rfl, #[], more, rfl, hm⟩)
        · exact .inl (stays b o hb e)
      · by_cases hb : b = PL
        · subst hb
          exact ⟨_, hm⟩
        · exact ⟨o, stays b o hb e⟩
theorem call_law (z : At0 K mg mb a cL PL s1 vs ns)
    (F : ∀ (H : Hp) (base : Heap), H PL = some (.tbl #[]) → SqL K H a (ns.map V.int) → Env0 P w K mg base callerA [] s1 H → LamX.TabB base mg cL PL → codeAny (model P w) callerA (.call (.ref fL) ⟨[.ref a], []⟩) (CR CX0 [] P w H s1 (fun v _ => v = .bl true) (fun _ _ _ => False)) s1) :
    codeAny (model P w) callerA (.call (.ref fL) ⟨[.ref a], []⟩) (fun r s' => r = .ok (.ret (.bool true)) ∧ OldK s1.heap s'.heap ∧ s'.os = s1.os ∧ AllBare s'.gens) s1 := by
  have rv := vals_ints z.intz
  have lenV := z.intz.length
  have naP := z.ne
  cases hk : K.lookup a with
  | some o =>
    have e := z.kin a o hk
    rw [z.scr] at e
    cases e
    have y : Hp0 P w K a PL s1 ns (fun b => if b = PL then some (.tbl #[]) else none) := by
      refine ⟨if_pos rfl, fun b => ?_, .inr ⟨_, vs.toArray, _, hk, rfl, rfl, rfl, by rw [List.size_toArray, lenV]; exact z.lenz, by simpa using rv⟩, fun b u e => ?_, fun b e => ?_, fun e => absurd (show (if a = PL then some (HO.tbl #[]) else none) = none from if_neg naP) e⟩
      · by_cases hb : b = PL
        · exact .inr (.inl hb)
        · exact .inl (if_neg hb)
      · by_cases hb : b = PL
        · have e' := (if_pos hb).symm.trans e
          cases e'
          rw [hb]
          exact z.tab
        · have e' := (if_neg hb).symm.trans e
          cases e'
      · by_cases hb : b = PL
        · exact .inr hb
        · exact absurd (if_neg hb) e
    exact call_core z y fun base e0 t => F _ base y.tb y.sq e0 t
  | none =>
    have y : Hp0 P w K a PL s1 ns (fun b => if b = a then some (.frz { cls := .type "list", data := .seq vs.toArray } (.lst (ns.map V.int))) else if b = PL then some (.tbl #[]) else none) := by
      refine ⟨(if_neg naP.symm).trans (if_pos rfl), fun b => ?_, .inl (.inr ⟨{ cls := .type "list", data := .seq vs.toArray }, if_pos rfl⟩), fun b u e => ?_, fun b e => ?_, fun _ => hk⟩
      · by_cases hb : b = a
        · exact .inr (.inr ⟨_, _, if_pos hb⟩)
        · by_cases hb2 : b = PL
          · exact .inr (.inl hb2)
          · exact .inl ((if_neg hb).trans (if_neg hb2))
      · by_cases hb : b = a
        · have e' := (if_pos hb).symm.trans e
          cases e'
          rw [hb]
          exact ⟨z.scr, by rw [List.length_map]; exact z.lenz, vs, _, rv, z.scr⟩
        · have e1 := (if_neg hb).symm.trans e
          by_cases hb2 : b = PL
          · have e' := (if_pos hb2).symm.trans e1
            cases e'
            rw [hb2]
            exact z.tab
          · have e' := (if_neg hb2).symm.trans e1
            cases e'
      · by_cases hb : b = a
        · exact .inl hb
        · by_cases hb2 : b = PL
          · exact .inr hb2
          · exact absurd ((if_neg hb).trans (if_neg hb2)) e
    exact call_core z y fun base e0 t => F _ base y.tb y.sq e0 t
end
end Tg

-- part KZZ
set_option Elab.async false
set_option linter.all false
set_option maxRecDepth 100000
set_option maxHeartbeats 0
namespace Tg
open PySem PySem.Spec PyProof.Rows L2 TgM LamX
abbrev LW : PySem.W.OpenLaw := PySem.Challenge.rw_tilesregrow_k23_whole_rows_of_numbers
theorem walk {q : Program} {loose : List Str} {XP : (Str → Option Value) → Heap → Prop} : PySem.W.WalkO q loose XP TgH.hk.says LW.row.toRowW (HandSHeadRun.topDef (PySem.W.OpenLaw.row LW).prog 69) [] (fun f vs => PySem.call f vs) := by
  refine Att.attach_callB (l := LW) (n := 63) rfl (by kernel_rfl) fun w s₀ s₁ mg mb fa o pm cd doc a vs ns G Y ho hd hcd hmg0 hobj hints hlen hbits hg => ?_
  obtain ⟨K, KX, says⟩ := Y
  have T : Txt K mg w := txt_of KX G.T.g says
  have hmg : mg ("law" : Str) = some (.ref fa) := by
    have e : (HandSHeadRun.topDef (PySem.W.OpenLaw.row LW).prog 69).name = ("law" : Str) := by kernel_rfl
    rw [← e]
    exact hmg0
  obtain ⟨fdL, FL⟩ := (T.d 37).ex
  have e := hmg.symm.trans (T.d 37).g
  cases e
  have bL : Binds K fdL ["_law_script"] [] := FL.bindsN (fun _ _ _ _ _ _ us hl => match us, hl with | [_], _ => rfl)
  obtain ⟨oc, od, dV, kV, doc', pm', an, cdv, ct, osl, rfl, lk, hcdv, _, _⟩ := id FL.ex
  obtain ⟨cL, rfl⟩ := He.codeIn_ref hcdv
  have ecL : He.codeOf K ("law", none) = cL := He.codeOf_eq (p := ("law", none)) lk rfl
  have mem : (("law" : Str), (none : Option Str)) ∈ TgH.tf := List.mem_singleton.mpr rfl
  have hP := says.hd _ mem
  have hcT : (He.cT K ("law", none)).1 = cL := ecL
  rw [hcT] at hP
  have z : At0 K mg mb a cL (He.cT K ("law", none)).2 s₁ vs ns := ⟨KX, G.T.g, G.T.b, G.T.builtins, G.T.nolimit, hg, says.empty _ mem, says.out _ mem, PySem.W.codeHd_of_K KX hP, G.T.bmain, hobj, hints, Nat.le_trans hlen (by decide)⟩
  have hr : Room (7 + 1) callerA := ⟨rfl, by decide, by decide⟩
  refine call_law z fun H base hb hs e0 tb => run_ofS (N := nmLaw) (ps := ["_law_script"]) (us := [.ref a]) (vs := [.ref a]) lk hcdv scLaw hr e0 (bL s₁ [.ref a] KX rfl) (.cons rfl .nil) rfl fun hr' => ?_
  obtain ⟨t, ht, hq⟩ := law_body T (Q := fun v _ => v = .bl true) (E := fun _ _ _ => False) tb rfl hr' hs hb (fun _ => rfl)
  exact ⟨t, ht.nox, hq⟩
end Tg
open PySem PySem.W PySem.Calls PyProof.Rows
theorem PySem.Challenge.cw_tilesregrow_k23_whole_rows_of_numbers_holds : PySem.Challenge.rw_tilesregrow_k23_whole_rows_of_numbers.Holds := by
  w_on; o_law
  refine HandSHeadRun.head_any (r := OpenLaw.row PySem.Challenge.rw_tilesregrow_k23_whole_rows_of_numbers) (q := view (OpenLaw.row PySem.Challenge.rw_tilesregrow_k23_whole_rows_of_numbers).prog [69]) (H := TgH.hk) (ob := TgH.ob) (M := 4000) (loose := TgH.loose) (d := HandSHeadRun.topDef (OpenLaw.row PySem.Challenge.rw_tilesregrow_k23_whole_rows_of_numbers).prog 69) (kwd := []) TgH.ob_eq
    (by kernel_rfl) (fun s => by kernel_rfl) TgH.run (by kernel_rfl) (by kernel_rfl) (by kernel_rfl) (by rfl) (by first | assumption | decide +kernel) (by decide +kernel) ⟨rfl, rfl, rfl, rfl, rfl, by decide +kernel⟩ ?hw ?hc
  case hw => w_witness2
  case hc => exact Tg.walk
