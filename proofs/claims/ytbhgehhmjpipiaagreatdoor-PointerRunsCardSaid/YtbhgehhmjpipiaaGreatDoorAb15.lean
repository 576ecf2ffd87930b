/- The set of equations by which simp runs a function's text. -/
import Derived.Test.YtbhgehhmjpipiaaGreatDoorAb14
set_option linter.unusedSectionVars false
set_option linter.unusedSimpArgs false
set_option linter.unusedVariables false
namespace Go.Proofs.YtbhgehhmjpipiaaGreatDoor.Ab
open Go Go.RowKit
variable [Inhabited DW]
attribute [go_sem] run_nil run_skip run_seq run_block run_inBlock run_exit exit_code exit_inLoop exit_inBlock run_ret run_cond condS_bool condS_ub run_loop run_inLoop run_region regPick_nil regS_none
 opsS_nil opsS_guard joinS_none joinAt lookJ opsS_move opsS_assign opsS_pick opsS_load opsS_binOp opsS_unOp opsS_convert opsS_nilCheck opsS_fieldAddr opsS_field opsS_indexAddr opsS_index opsS_extract opsS_build opsS_store opsS_alloc opsS_box opsS_slice opsS_slice3 opsS_clear opsS_makeFunc opsS_buildSlice opsS_len opsS_cap opsS_copy opsS_makeSlice opsS_range opsS_next opsS_append opsS_appendZ opsS_max opsS_min opsS_call
 valS_some valS_none valS_ite awS_some awS_none awS_ite guardS_bool guardS_tup callF_fn
 drawS_nil drawS_guard drawS_move drawS_assign drawS_pick drawS_load drawS_binOp drawS_unOp drawS_convert drawS_nilCheck drawS_fieldAddr drawS_field drawS_indexAddr drawS_index drawS_extract drawS_build drawS_store drawS_alloc drawS_box drawS_slice drawS_slice3 drawS_clear drawS_makeFunc drawS_buildSlice drawS_len drawS_cap drawS_copy drawS_makeSlice drawS_append drawS_max drawS_min drawS_call
 valD_some valD_none valD_ite awD_some awD_none awD_ite guardD_bool guardD_tup callFD_fn
attribute [go_sem] Env.ev Env.gs Env.go Env.put Env.puts Env.putD absV Env.load Env.cellsAt Env.store Env.frz1 Env.frzL Env.frz Env.frzA Env.frz1s Env.frzLs Env.frzs Env.frzAs rowsQ addOff pickAV Env.conv strOf Env.tell1 Env.tellL1 Env.tellR1 Env.tell2 Env.tellL2 Env.tell Env.tellA freeC freeA freeR freeO Env.rows Env.index arrIndex bound within
 Env.cut Env.cutW Env.cut3 Env.count Env.clear Env.append cmpInt cmpStr cmpBool cmpAgg cmpNil eqCells absBin absUn absConv cellsOf layParts chop scalarAV AV.flat AV.pureR AV.pure AV.cellP AV.cellQ dstOf resAV oneOr handed
 clr clrS clrO adoptN adopt thawN thaw thawI nilS shrink hintN soil pureO moveC freeB lookK firstReg rdO rdC deep1 wrO ment ment1 Op.operands Call.operands
 pickV fieldAddrV fieldV indexV indexAddrV extractV nilCheckV fnV aggV buildV newV boxV rowV litV buildSliceV lenV capV maxV minV Env.make Env.copy Env.copyW Env.appendZ Env.iterNext rangeV
attribute [go_sem] Option.getD_none Option.getD_some List.getD_cons_zero List.getD_cons_succ List.getD_nil List.set_cons_zero List.set_cons_succ List.map_cons List.map_nil List.getElem?_cons_zero List.getElem?_cons_succ List.take_succ_cons List.take_zero List.drop_succ_cons List.drop_zero List.length_cons List.length_nil
 List.cons_append List.nil_append List.append_nil List.all_cons List.all_nil Option.map_some Option.map_none Option.bind_some Option.bind_none Nat.lt_add_one if_true if_false
 and_true true_and and_false false_and Bool.and_true Bool.true_and Bool.and_false Bool.false_and List.flatten_cons List.flatten_nil List.replicate_succ List.replicate_zero List.zip_cons_cons List.zip_nil_right List.zip_nil_left
theorem ite_ctx {c d : Prop} [Decidable c] [Decidable d] {a b a' b' : Prop} (h : c = d) (h1 : d → a = a') (h2 : ¬d → b = b') : (if c then a else b) = (if d then a' else b') := by
 subst h
 split
 · exact h1 ‹_›
 · exact h2 ‹_›
theorem iteB_or {c x : Bool} : (if c = false then x else true) = (c || x) := by cases c <;> rfl
theorem iteB_and {c x : Bool} : (if c = true then x else false) = (c && x) := by cases c <;> rfl
theorem iteB_or' {c : Prop} [Decidable c] {x : Bool} : (if ¬c then x else true) = (decide c || x) := by by_cases c <;> simp [*]
theorem iteB_and' {c : Prop} [Decidable c] {x : Bool} : (if c then x else false) = (decide c && x) := by by_cases c <;> simp [*]
attribute [go_sem] iteB_or iteB_and iteB_or' iteB_and'
theorem joinB {c : Prop} {_ : Decidable c} {x y : Bool} : if c then x = (if c then x else y) else y = (if c then x else y) := by
 split <;> rfl
def deadV (n : Nat) : AV := if n = 0 then .any else .dead n
theorem deadV_zero : deadV 0 = .any := rfl
theorem deadV_succ (n : Nat) : deadV (n + 1) = .dead (n + 1) := rfl
theorem nextVer_deadV (n : Nat) : nextVer (deadV n) = n + 1 := by cases n <;> rfl
def killV : AV → Nat → Env → Env
 | .obj v .., t, e => e.put (.o t) (.dead v)
 | _, _, e => e
theorem killO_eq (t : Nat) (e : Env) : killO t e = killV (e.go t) t e := by
 unfold killO killV
 cases e.go t <;> rfl
theorem killV_obj (v : Nat) (ty : TypeId) (esz : Nat) (fz pu : Bool) (xs : List (List AV)) (t : Nat) (e : Env) : killV (.obj v ty esz fz pu xs) t e = e.put (.o t) (.dead v) := rfl
theorem killV_any (t : Nat) (e : Env) : killV .any t e = e := rfl
theorem killV_dead (v t : Nat) (e : Env) : killV (.dead v) t e = e := rfl
theorem killV_deadV (n t : Nat) (e : Env) : killV (deadV n) t e = e := by cases n <;> rfl
theorem nextVer_obj (v : Nat) (ty : TypeId) (esz : Nat) (fz pu : Bool) (xs : List (List AV)) : nextVer (.obj v ty esz fz pu xs) = v + 1 := rfl
theorem nextVer_dead (v : Nat) : nextVer (.dead v) = v + 1 := rfl
theorem nextVer_any : nextVer .any = 1 := rfl
theorem freeB_deadV (n : Nat) : freeB (deadV n) = true := by cases n <;> rfl
attribute [go_sem] freeB_deadV
attribute [go_sem] nextVer_obj nextVer_dead nextVer_any deadV_zero deadV_succ nextVer_deadV killO_eq killV_obj killV_any killV_dead killV_deadV
attribute [go_sem] ifP_true ifP_false
def retM (P : Program) (rs : List ResultVar) (r : AV) (out : List (Nat × AV)) (e : Env) : Prop := (resAV P e rs).map oneOr = some r ∧ ∀ p ∈ out, e.go p.1 = p.2
attribute [go_sem] retM
abbrev AnsM (P : Program) (f : FuncId) (N : Nat) (os args : List AV) (r : AV) (out : List (Nat × AV)) : Prop := goes P f = true ∧ GoodM P f N os args r out
theorem goodM_run {P : Program} {f : FuncId} {fn : Func} {c : Code} {os args : List AV} {r : AV} {out : List (Nat × AV)} {N : Nat} {rs : List ResultVar} (K : KK) (hm : P.follows .mixedOrders = true) (hf : P.funcs[f]? = some fn) (hb : fn.body = some c) (hN : fn.ntmps = N) (hrs : fn.results.toList = rs) (hwf : wfCode (N + os.length) c = true) (hgo : goes P f = true)
 (h : run P K (retM P rs r out) [.code c] (startM N args os)) : AnsM P f N os args r out := by
 subst hN hrs
 refine ⟨hgo, goodM_of_awp K hm hf hb hwf ?_⟩
 have key : ∀ x e, contS P K (retM P fn.results.toList r out) [] x e → (match x with
  | .exit _ => False
  | _ => (resAV P e fn.results.toList).map oneOr = some r ∧ ∀ p ∈ out, e.go p.1 = p.2) := fun x e h => by cases x <;> exact h
 have := h
 simp only [run, contS] at this
 exact this
def retA (ads : List Nat) (P : Program) (rs : List ResultVar) (r : AV) (out : List (Nat × AV)) (e : Env) : Prop := retM P rs r out (Ab.clrO ads e)
attribute [go_sem] retA
theorem goodM_runA (ads : List Nat) {P : Program} {f : FuncId} {fn : Func} {c : Code} {os args : List AV} {r : AV} {out : List (Nat × AV)} {N : Nat} {rs : List ResultVar} (K : KK) (hm : P.follows .mixedOrders = true) (hf : P.funcs[f]? = some fn) (hb : fn.body = some c) (hN : fn.ntmps = N) (hrs : fn.results.toList = rs) (hwf : wfCode (N + os.length) c = true) (hgo : goes P f = true)
 (h : run P K (retA ads P rs r out) [.code c] (startM N args os)) : AnsM P f N os args r out := by
 subst hN hrs
 refine ⟨hgo, goodM_of_awpA ads K hm hf hb hwf ?_⟩
 have key : ∀ x e, contS P K (retA ads P fn.results.toList r out) [] x e → (match x with
  | .exit _ => False
  | _ => (resAV P (Ab.clrO ads e) fn.results.toList).map oneOr = some r ∧ ∀ p ∈ out, (Ab.clrO ads e).go p.1 = p.2) := fun x e h => by cases x <;> exact h
 have := h
 simp only [run, contS] at this
 exact this
theorem startM_eq (N : Nat) (args os : List AV) (l r : List AV) (h : args ++ List.replicate (N - args.length) .any = l) (h2 : List.replicate N .any ++ os = r) : startM N args os = ⟨l, r⟩ := by
 unfold startM; rw [h, h2]
attribute [go_sem] ren1 renA ren renObj posOf invM newVer fwdM outAt killsM outsM isObj MC.fwd MC.ws MC.res verOf
theorem startE_eq (N : Nat) (args : List AV) (l r : List AV) (h : args ++ List.replicate (N - args.length) .any = l) (h2 : List.replicate N .any = r) : startE N args = ⟨l, r⟩ := by
 unfold startE; rw [h, h2]
def nth {α : Type} [Inhabited α] (l : List α) (i : Nat) : α := l.getD i default
theorem nth_eq {α : Type} [Inhabited α] {l : List α} {i : Nat} (h : i < l.length) : nth l i = l[i] := by
 simp [nth, h]
theorem map_getD {α : Type} [Inhabited α] {f : α → List AV} {l : List α} {i : Nat} (h : i < l.length) : (l.map f).getD i [] = f (nth l i) := by
 simp [List.getD_eq_getElem?_getD, h, nth]
theorem drop_nth {α : Type} [Inhabited α] {l : List α} {i : Nat} (h : i < l.length) : l.drop i = nth l i :: l.drop (i + 1) := by
 rw [nth_eq h, List.drop_eq_getElem_cons h]
theorem wrap_i64 {n : Int} (h : -9223372036854775808 ≤ n) (h2 : n ≤ 9223372036854775807) : IntKind.wrap .i64 n = n := by
 unfold IntKind.wrap
 simp [IntKind.signed, IntKind.bits]
 omega
theorem wrap_succ {n : Nat} (h : n < 9223372036854775807) : IntKind.wrap .i64 ((n : Int) + 1) = ((n + 1 : Nat) : Int) := by
 rw [wrap_i64 (by omega) (by omega)]; rfl
theorem wrap_pred {n : Nat} (h : 0 < n) (h2 : n ≤ 9223372036854775807) : IntKind.wrap .i64 ((n : Int) - 1) = ((n - 1 : Nat) : Int) := by
 rw [wrap_i64 (by omega) (by omega)]; omega
theorem nat_neg {n : Nat} : ((n : Int) < 0) = False := by simp
attribute [go_sem] nat_neg
theorem iteI {c : Prop} [Decidable c] {a b : Prop} (h1 : c → a) (h2 : ¬c → b) : if c then a else b := by
 split
 · exact h1 ‹_›
 · exact h2 ‹_›
attribute [go_sem] Array.toList_append List.toList_toArray List.map_toArray List.append_toArray
attribute [go_sem] List.flatMap_cons List.flatMap_nil Option.toList_some Option.toList_none List.filterMap_cons List.filterMap_nil
attribute [go_sem] Env.mk.injEq Option.some.injEq AV.int.injEq AV.bool.injEq AV.str.injEq AV.tup.injEq AV.agg.injEq AV.sl.injEq List.cons.injEq
attribute [go_sem] List.length_map map_getD decide_eq_true_eq Int.natCast_nonneg Int.ofNat_lt Int.toNat_natCast
theorem rowsLen_map {α : Type} {f : α → List AV} {l : List α} {n : Nat} (h : ∀ a, (f a).length = n) : rowsLen n (l.map f) = true := by
 simp [rowsLen, h]
theorem rowsLen_nil {n : Nat} : rowsLen n [] = true := rfl
theorem rowsLen_cons {n : Nat} {x : List AV} {l : List (List AV)} : rowsLen n (x :: l) = (x.length == n && rowsLen n l) := rfl
attribute [go_sem] Bool.false_or Bool.true_or Bool.or_false Bool.or_true decide_true decide_false Bool.false_eq_true Bool.true_eq_false not_true_eq_false not_false_eq_true Bool.not_eq_true Bool.not_eq_false
attribute [go_sem] rowsLen_map rowsLen_nil rowsLen_cons implies_true forall_const beq_self_eq_true ite_self
abbrev Ans (P : Program) (f : FuncId) (args : List AV) (r : AV) : Prop := goes P f = true ∧ Ab.Good P f args r
def retQ (P : Program) (rs : List ResultVar) (r : AV) (e : Env) : Prop := handed P e rs = some r
attribute [go_sem] retQ
def retL (P : Program) (rs : List ResultVar) (r : AV) (e : Env) : Prop := ∃ r0, handed P e rs = some r0 ∧ AVle r0 r
theorem good_run {P : Program} {f : FuncId} {fn : Func} {c : Code} {args : List AV} {r : AV} {N : Nat} {rs : List ResultVar} (K : KK) (hm : P.follows .mixedOrders = true) (hf : P.funcs[f]? = some fn) (hb : fn.body = some c) (hN : fn.ntmps = N) (hrs : fn.results.toList = rs) (hwf : wfCode N c = true) (hgo : goes P f = true)
 (hr : r.pureR = true) (h : run P K (retQ P rs r) [.code c] (startE N args)) : goes P f = true ∧ Good P f args r := by
 subst hN hrs
 refine ⟨hgo, good_of_awp K hm hf hb hwf ?_ hr⟩
 have key : ∀ x e, contS P K (retQ P fn.results.toList r) [] x e → (match x with
  | .exit _ => False
  | _ => handed P e fn.results.toList = some r) := fun x e h => by cases x <;> exact h
 have := h
 simp only [run, contS] at this
 exact this
end Go.Proofs.YtbhgehhmjpipiaaGreatDoor.Ab
