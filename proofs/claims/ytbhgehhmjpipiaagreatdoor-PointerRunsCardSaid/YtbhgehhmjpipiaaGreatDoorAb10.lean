/- The abstract machine over a function's text: operations in a row, in any order, code, loops, calls. -/
import Derived.Test.YtbhgehhmjpipiaaGreatDoorAbE
set_option linter.unusedSectionVars false
set_option linter.unusedSimpArgs false
set_option linter.unusedVariables false
namespace Go.Proofs.YtbhgehhmjpipiaaGreatDoor.Ab
open Go Go.RowKit
variable [Inhabited DW]
def goes (P : Program) (f : FuncId) : Bool := match P.funcs[f]? with
 | some fn => !(fn.name == "runtime.NumGoroutine") && fn.body.isSome
 | none => false
def awpCore0 (P : Program) (e : Env) (o : Oper) (K : Ws → Prop) : Prop :=
 match o.op with
 | .call { callee := .value f, args, .. } => match e.ev f, e.frzA (args.toList.map e.ev) with
   | .fn g caps, some (as, ws) => ∃ r, (goes P g = true ∧ Good P g (as ++ caps) r) ∧ K ((if r.flat then [] else ws) ++ oneS o r)
   | _, _ => False
 | _ => match absOp P e o with
   | some ws => K ws
   | none => False
def mcallD (P : Program) (e : Env) (o : Oper) (K : Ws → Prop) : Prop :=
 match o.op with
 | .call { callee := .value f, args, .. } => match e.ev f with
   | .fn g [] => ∃ d : MC, (goes P g = true ∧ GoodM P g d.N d.os d.args d.r d.out) ∧ (d.FitsD e (args.toList.map e.ev) o.dst ∨ d.LendsD e (args.toList.map e.ev) o.dst) ∧ K (d.ws e ++ oneS o (d.res e))
   | _ => False
 | _ => False
def awpCore (P : Program) (e : Env) (o : Oper) (K : Ws → Prop) : Prop := awpCore0 P e o K ∨ mcallD P e o K
def dstOf (all : List Oper) (j : Nat) : Option Nat := (all[j]?).bind (·.dst)
def awpOp (P : Program) (all : List Oper) (e : Env) (o : Oper) (K : Ws → Prop) : Prop :=
 match o.guard with
 | none => awpCore P e o K
 | some (j, want) => match dstOf all j with
   | some d => match e.gs d with
     | .bool b => if b = want then awpCore P e o K else K (oneS o (.tup []))
     | .tup _ => K (oneS o (.tup []))
     | _ => False
   | none => False
def mcall (P : Program) (e : Env) (o : Oper) (K : Ws → Prop) : Prop :=
 match o.op with
 | .call { callee := .value f, args, .. } => match e.ev f with
   | .fn g [] => ∃ d : MC, (goes P g = true ∧ GoodM P g d.N d.os d.args d.r d.out) ∧ (d.Fits e (args.toList.map e.ev) ∨ d.Lends e (args.toList.map e.ev)) ∧ K (d.ws e ++ oneS o (d.res e))
   | _ => False
 | _ => False
def mcallG (P : Program) (all : List Oper) (e : Env) (o : Oper) (K : Ws → Prop) : Prop :=
 match o.guard with
 | none => mcall P e o K
 | some (j, want) => match dstOf all j with
   | some d => match e.gs d with
     | .bool b => b = want ∧ mcall P e o K
     | _ => False
   | none => False
def awpOpX (P : Program) (all : List Oper) (e : Env) (o : Oper) (K : Ws → Prop) : Prop := awpOp P all e o K ∨ mcallG P all e o K
def awpOps0 (P : Program) (all : List Oper) : List Oper → Env → (Env → Prop) → Prop
 | [], e, Q => Q e
 | o :: rest, e, Q => awpOpX P all e o fun ws => awpOps0 P all rest (e.puts ws) Q
def clrS : List Nat → Env → Env
 | [], e => e
 | t :: ts, e => clrS ts (e.put (.s t) .any)
def lookJ : List (Nat × List Nat × List Nat) → Nat → Option (Nat × Nat × List Nat)
 | [], _ => none
 | (i, k, ks) :: rest, r => if i = r then match k with
   | [m, d] => some (m, d, ks)
   | _ => none
   else lookJ rest r
def joinOf (K : List (Nat × List Nat × List Nat)) (o : Oper) : Option (Nat × Nat × List Nat) := match o.guard, o.dst with
 | some _, some d => lookJ K (1000000 + d)
 | _, _ => none
def awpOps (P : Program) (K : List (Nat × List Nat × List Nat)) (all : List Oper) : Nat → List Oper → Env → (Env → Prop) → Prop
 | _, [], e, Q => Q e
 | n + 1, _ :: rest, e, Q => awpOps P K all n rest e Q
 | 0, o :: rest, e, Q => match joinOf K o with
   | some (m, d, ks) => ∃ B : Bool, awpOps0 P all ((o :: rest).take (m + 1)) e (fun e1 => clrS ks e1 = clrS ks (e.put (.s d) (.bool B))) ∧ awpOps P K all m rest (clrS ks (e.put (.s d) (.bool B))) Q
   | none => awpOpX P all e o fun ws => awpOps P K all 0 rest (e.puts ws) Q
theorem awpOps_skip {P : Program} {K : List (Nat × List Nat × List Nat)} {all : List Oper} {Q : Env → Prop} : ∀ (n : Nat) (l : List Oper) (e : Env), awpOps P K all n l e Q = awpOps P K all 0 (l.drop n) e Q
 | 0, l, e => rfl
 | n + 1, [], e => rfl
 | n + 1, o :: l, e => awpOps_skip n l e
theorem awpOps_nil {P : Program} {all : List Oper} {Q : Env → Prop} : ∀ (l : List Oper) (e : Env), awpOps P [] all 0 l e Q = awpOps0 P all l e Q
 | [], e => rfl
 | o :: l, e => by
   have : joinOf [] o = none := by unfold joinOf; split <;> rfl
   simp only [awpOps, awpOps0, this, awpOps_nil l]
section
variable {P : Program} {w0 : Bs} {Pr0 : Nat → Nat → Prop} {G : Gh} {e : Env} {a : Act} {w : World}
theorem Inv.afterCall {tm : Array Value} (h : Inv w0 Pr0 G e tm w) {w' : World} {Pr' : Nat → Nat → Prop} (hb : BelowD w w') (h1 : ∀ b o, G.pr b o → Pr' b o) (h2 : ∀ b o, b < w.heap.size → Pr' b o → G.pr b o) (h3 : ∀ b o, Pr' b o → b < w'.heap.size) :
 Inv w0 Pr0 { G with pr := Pr' } e tm w' ∧ GLe G w { G with pr := Pr' } w' := by
 have hle : GLe G w { G with pr := Pr' } w' := ⟨h1, fun _ => Nat.le_refl _, fun _ _ h => .inr h, fun b o v hp hc => by
  rw [hb.cell (p := ⟨b, o, none⟩) (h.prlt b o hp)]; exact hc⟩
 have hB : w0.w.heap.size ≤ w.heap.size := h.below.size
 refine ⟨?_, hle⟩
 exact {
  gle := h.gle.trans hle
  below := h.below.stepW hb.os hb.tape hb.output hb.dr hb.size (fun k hk => hb.block k (Nat.lt_of_lt_of_le (Bs.lt_of hk) hB))
  pr0 := fun b o hp => h1 b o (h.pr0 b o hp)
  prB := fun b o hbo hp => h.prB b o hbo (h2 b o (Nat.lt_of_lt_of_le (Bs.lt_of hbo) hB) hp)
  gl := h.gl
  prlt := h3
  len := h.len
  slots := fun t a v q1 q2 => (h.slots t a v q1 q2).mono hle
  objs := fun t => (h.objs t).mono hle rfl rfl (fun g blk hg hc hbs hge => by
   have := (h.objs t).lt hg hc hbs
   exact ⟨hb.block blk this, fun o hlt hp => h2 blk o hlt hp⟩)
  sep := h.sep }
theorem flat_congr {G G' : Gh} {w w' : World} {r : AV} {v : Value} (h : VRel G w r v) (hf : r.flat = true) : VRel G' w' r v := by
 have sc : ∀ {r : AV} {v : Value}, VRel G w r v → scalarAV r = true → VRel G' w' r v := fun {r v} h hs => by
  cases h <;> first | exact .int _ _ | exact .bool _ | exact .str _ | simp [scalarAV] at hs
 cases h with
 | tup cs vs hn h => exact .tup cs vs hn fun i c v h1 h2 => sc (h i c v h1 h2) (List.all_eq_true.1 hf c (List.mem_of_getElem? h1))
 | int k n => exact .int k n
 | bool b => exact .bool b
 | str s => exact .str s
 | _ => simp [AV.flat, scalarAV] at hf
theorem pureR_congr {G G' : Gh} {w : World} {r : AV} {v : Value} (hpr : ∀ b o, G.pr b o → G'.pr b o) (h : VRel G w r v) (hp : r.pureR = true) : VRel G' w r v := by
 cases r with
 | tup vs =>
   cases h with
   | tup _ us hn h => exact .tup vs us hn fun i c v h1 h2 => (h i c v h1 h2).pure_congr' hpr (fun _ _ _ _ h => h) (List.all_eq_true.1 hp c (List.mem_of_getElem? h1))
 | _ => exact h.pure_congr' hpr (fun _ _ _ _ h => h) hp
theorem callSound (hI : Inv w0 Pr0 G e a.tmps w) (hd : a.defers = []) {o : Oper} {f : Operand} {args : Array Operand} {ats : Array TypeId} (ho : o.op = .call ⟨.value f, args, ats⟩)
 {g : FuncId} {caps as : List AV} {ws : Ws} {r : AV} (hf : e.ev f = .fn g caps) (hfr : e.frzA (args.toList.map e.ev) = some (as, ws)) (hgo : goes P g = true) (hg : Good P g (as ++ caps) r)
 {K : Act → World → Prop} {Q : Exit → Act → World → Prop} (hK : ∀ G' tm' w', Inv w0 Pr0 G' (e.puts ((if r.flat then [] else ws) ++ oneS o r)) tm' w' → K ⟨tm', []⟩ w') : o.wp P a w K Q := by
 have hfv := hI.ev f
 rw [hf] at hfv
 generalize hfe : a.eval f = fv at hfv
 cases hfv with
 | fn _ _ vs hn hp hr =>
   obtain ⟨G1, l1, I1, S1, n1, R1, p1⟩ := frzA_sound (args.toList.map e.ev) as ws G e (fun i => a.eval (args.toList.getD i (.func 0))) (Sam.refl e) hI (fun i c hi => by
    rw [List.getElem?_map] at hi
    cases hci : args.toList[i]? with
    | none => rw [hci] at hi; cases hi
    | some o' =>
      rw [hci] at hi
      simp only [Option.map_some, Option.some.injEq] at hi
      subst hi
      rw [List.getD_eq_getElem?_getD, hci]
      exact hI.ev o') hfr
   obtain ⟨hpr, hcalls⟩ := hg
   have hsz : as.length = args.size := by rw [n1]; simp
   have hc := hcalls w G1.pr (args.map a.eval ++ vs) (by simp [hn, hsz]) (fun i c v hc hv => by
    by_cases hi : i < as.length
    · rw [List.getElem?_append_left hi] at hc
      rw [Array.getElem?_append_left (by simp; omega), Array.getElem?_map] at hv
      have := R1 i c hc
      rw [List.getD_eq_getElem?_getD, Array.getElem?_toList] at this
      have hlt : i < args.size := by omega
      rw [Array.getElem?_eq_getElem hlt] at this hv
      simp only [Option.map_some, Option.some.injEq, Option.getD_some] at this hv
      subst hv
      exact this.pure_congr' (G := G1) (G' := ⟨G1.pr, fun _ => none, fun _ => 0⟩) (fun _ _ h => h) (fun _ _ _ _ h => h) (p1 c (List.mem_of_getElem? hc))
    · rw [List.getElem?_append_right (by omega)] at hc
      rw [Array.getElem?_append_right (by simp; omega)] at hv
      have e1 : i - (args.map a.eval).size = i - as.length := by simp [hsz]
      rw [e1] at hv
      exact ((hr _ c v hc hv).mono l1).pure_congr (G := G1) (G' := ⟨G1.pr, fun _ => none, fun _ => 0⟩) (fun _ _ h => h) (fun _ _ _ _ h => h) (hp c (List.mem_of_getElem? hc))) I1.prlt I1.glNow
   have hent : (execOp a.eval o).run P w = .ok (.enter g (args.map a.eval ++ vs)) w := by
    unfold goes at hgo
    cases hfn : P.funcs[g]? with
    | none => rw [hfn] at hgo; cases hgo
    | some fn =>
      rw [hfn] at hgo
      simp only [Bool.and_eq_true, Bool.not_eq_true', beq_eq_false_iff_ne] at hgo
      obtain ⟨q1, q2⟩ := hgo
      obtain ⟨body, q3⟩ := Option.isSome_iff_exists.1 q2
      simp [execOp, ho, resolve, hfe, Deferred.ofValue, invoke, callFunc, program, Sem.run, hfn, q1, q3]
   unfold Oper.wp
   rw [hent]
   refine Calls.mono hc (fun en w' hpost => ?_)
   obtain ⟨v, Pr', rfl, hv, h1, h2, h3, hb⟩ := hpost
   by_cases hfl : r.flat = true
   · rw [if_pos hfl, List.nil_append] at hK
     obtain ⟨I2, _⟩ := hI.afterCall (Pr' := G.pr) hb (fun _ _ h => h) (fun _ _ _ h => h) (fun b o h => Nat.lt_of_lt_of_le (hI.prlt b o h) hb.size)
     exact fin I2 hd (flat_congr hv hfl) hK
   · rw [if_neg hfl] at hK
     obtain ⟨I2, _⟩ := I1.afterCall hb h1 h2 h3
     exact fin I2 hd (pureR_congr (G := ⟨Pr', fun _ => none, fun _ => 0⟩) (G' := { G1 with pr := Pr' }) (fun _ _ h => h) hv hpr) (by simpa only [Env.puts_append] using hK)
theorem mSound (hI : Inv w0 Pr0 G e a.tmps w) (hd : a.defers = []) {o : Oper} {f : Operand} {args : Array Operand} {ats : Array TypeId} (ho : o.op = .call ⟨.value f, args, ats⟩)
 {g : FuncId} (hf : e.ev f = .fn g []) (hgo : goes P g = true) {d : MC} (hg : GoodM P g d.N d.os d.args d.r d.out) (hfit : d.Fits e (args.toList.map e.ev))
 {K : Act → World → Prop} {Q : Exit → Act → World → Prop} (hK : ∀ G' tm' w', Inv w0 Pr0 G' (e.puts (d.ws e ++ oneS o (d.res e))) tm' w' → K ⟨tm', []⟩ w') : o.wp P a w K Q := by
 have hfv := hI.ev f
 rw [hf] at hfv
 generalize hfe : a.eval f = fv at hfv
 cases hfv with
 | fn _ _ vs hn hp hr =>
   have hvs : vs = #[] := by
    apply Array.eq_empty_of_size_eq_zero; simpa using hn
   subst hvs
   obtain ⟨hm, hs, hos, -⟩ := hI.callee hfit
   have hc := hg w (ghM G d.N d.us) (args.map a.eval) (by rw [← hfit.args]; simp) (fun i c v hc hv => by
    rw [← hfit.args, List.getElem?_map, List.getElem?_map, Array.getElem?_toList] at hc
    rw [Array.getElem?_map] at hv
    cases hx : args[i]? with
    | none => rw [hx] at hc; cases hc
    | some x =>
      rw [hx] at hc hv
      simp only [Option.map_some, Option.some.injEq] at hc hv
      subst hc hv
      exact (hI.ev x).renA hm fun _ _ h => h) hI.prlt hI.glNow hos hs
   have hent : (execOp a.eval o).run P w = .ok (.enter g (args.map a.eval)) w := by
    unfold goes at hgo
    cases hfn : P.funcs[g]? with
    | none => rw [hfn] at hgo; cases hgo
    | some fn =>
      rw [hfn] at hgo
      simp only [Bool.and_eq_true, Bool.not_eq_true', beq_eq_false_iff_ne] at hgo
      obtain ⟨q1, q2⟩ := hgo
      obtain ⟨body, q3⟩ := Option.isSome_iff_exists.1 q2
      simp [execOp, ho, resolve, hfe, Deferred.ofValue, invoke, callFunc, program, Sem.run, hfn, q1, q3]
   unfold Oper.wp
   rw [hent]
   refine Calls.mono hc (fun en w' hpost => ?_)
   obtain ⟨v, G', rfl, hv, hle, h1, h2, hb, h3, h4⟩ := hpost
   obtain ⟨I2, hmok⟩ := hI.calleeBack hfit hle h1 h2 hb h3 h4
   exact fin I2 hd (hv.ren hmok fun _ _ h => h) (by simpa only [Env.puts_append, MC.res] using hK)
theorem lendSound (hI : Inv w0 Pr0 G e a.tmps w) (hd : a.defers = []) {o : Oper} {f : Operand} {args : Array Operand} {ats : Array TypeId} (ho : o.op = .call ⟨.value f, args, ats⟩)
 {g : FuncId} (hf : e.ev f = .fn g []) (hgo : goes P g = true) {d : MC} (hg : GoodM P g d.N d.os d.args d.r d.out) (hl : d.Lends e (args.toList.map e.ev))
 {K : Act → World → Prop} {Q : Exit → Act → World → Prop} (hK : ∀ G' tm' w', Inv w0 Pr0 G' (e.puts (d.ws e ++ oneS o (d.res e))) tm' w' → K ⟨tm', []⟩ w') : o.wp P a w K Q := by
 have hfit := hl.fits
 obtain ⟨N, us, os, dargs, r, out, tg⟩ := d
 obtain ⟨h1, h2, hargs, -, -, -, houts, hres, -⟩ := hl
 simp only at h1 h2 hargs houts hres hg hfit
 subst h1 h2
 have hfv := hI.ev f
 rw [hf] at hfv
 generalize hfe : a.eval f = fv at hfv
 cases hfv with
 | fn _ _ vs hn hp hr =>
   have hvs : vs = #[] := by
    apply Array.eq_empty_of_size_eq_zero; simpa using hn
   subst hvs
   have nob : ∀ (H : Gh) t, (ghM H N []).ob t = none := fun H t => by simp only [ghM]; split <;> simp
   have ncnt : ∀ (H : Gh) t, (ghM H N []).cnt t = 0 := fun H t => by
    simp only [ghM, List.length_nil, Nat.add_zero]
    split
    · rw [if_neg (by omega)]
    · rfl
   have nblk : ∀ (H : Gh) b, ¬ blksOf (ghM H N []) b := fun H b ⟨t, g, q, _⟩ => by rw [nob] at q; cases q
   obtain ⟨t1, t2⟩ := tellA_spec hargs
   have hsz : dargs.length = args.size := by rw [t1]; simp
   have hlt : ∀ b o, (ghM (lentG G) N []).pr b o → b < w.heap.size := fun b o hp => by
    rcases hp with hp | ⟨u, g, q1, q2, q3⟩
    · exact hI.prlt b o hp
    · obtain ⟨blk, r1, r2, _⟩ := hI.based q1 q2
      rw [q3] at r1; cases r1; exact r2
   have hc := hg w (ghM (lentG G) N []) (args.map a.eval) (by simp [hsz]) (fun i c v hc hv => by
    rw [Array.getElem?_map] at hv
    cases hx : args[i]? with
    | none => rw [hx] at hv; cases hv
    | some x =>
      rw [hx] at hv
      simp only [Option.map_some, Option.some.injEq] at hv
      subst hv
      have hm : (args.toList.map e.ev)[i]? = some (e.ev x) := by rw [List.getElem?_map, Array.getElem?_toList, hx]; rfl
      obtain ⟨p1, p2⟩ := hI.tell (hI.ev x) (t2 i _ c hm hc)
      exact p2.pure_congr' (G := lentG G) (G' := ghM (lentG G) N []) (fun _ _ h => h) (fun _ _ _ _ h => h) p1) hlt (hI.glNow.mono (fun _ _ h => .inl h) fun _ _ _ _ h => h) (fun t => by
       have : (startM N dargs []).go t = .any := by
        simp only [startM, Env.go, List.append_nil, List.getD_eq_getElem?_getD, List.getElem?_replicate]
        split <;> rfl
       rw [this]
       exact ⟨ncnt _ _, nob _ _⟩) (fun t t' g g' _ q => by rw [nob] at q; cases q)
   have hent : (execOp a.eval o).run P w = .ok (.enter g (args.map a.eval)) w := by
    unfold goes at hgo
    cases hfn : P.funcs[g]? with
    | none => rw [hfn] at hgo; cases hgo
    | some fn =>
      rw [hfn] at hgo
      simp only [Bool.and_eq_true, Bool.not_eq_true', beq_eq_false_iff_ne] at hgo
      obtain ⟨q1, q2⟩ := hgo
      obtain ⟨body, q3⟩ := Option.isSome_iff_exists.1 q2
      simp [execOp, ho, resolve, hfe, Deferred.ofValue, invoke, callFunc, program, Sem.run, hfn, q1, q3]
   unfold Oper.wp
   rw [hent]
   refine Calls.mono hc (fun en w' hpost => ?_)
   obtain ⟨v, G', rfl, hv, hle, h1, h2, hb, h3, h4⟩ := hpost
   let G2 : Gh := { G' with pr := fun b o => G'.pr b o ∧ (b < w.heap.size → G.pr b o) }
   have hle2 : GLe (ghM G N []) w G2 w' := by
    refine ⟨fun b o hp => ⟨hle.pr b o (.inl hp), fun _ => hp⟩, fun t => ?_, fun t g hg => ?_, fun b o v hp hc => hle.cell b o v (.inl hp) hc⟩
    · rw [ncnt]; exact Nat.zero_le _
    · rcases hle.ob t g hg with q | q
      · left; rw [ncnt] at q ⊢; exact q
      · rw [nob] at q; cases q
   have hown : ∀ b, Bs.own ⟨w, blksOf (ghM (lentG G) N []), ghM (lentG G) N []⟩ b → Bs.own ⟨w, blksOf (ghM G N []), ghM G N []⟩ b := fun b q => q.elim .inl fun q => absurd q (nblk _ b)
   have hown' : ∀ b, Bs.own ⟨w, blksOf (ghM G N []), ghM G N []⟩ b → Bs.own ⟨w, blksOf (ghM (lentG G) N []), ghM (lentG G) N []⟩ b := fun b q => q.elim .inl fun q => absurd q (nblk _ b)
   obtain ⟨I2, hmok⟩ := hI.calleeBack hfit (G' := G2) hle2 (fun b o hb _ hp => hp.2 hb) (fun b o hp => h2 b o hp.1)
    ⟨hb.os, hb.tape, hb.output, hb.dr, hb.size, fun k hk => hb.block k fun q => hk (hown k q)⟩
    (fun p hp => freeO_congr (G := G') rfl rfl (fun b o q => q.1) hown (h3 p hp) (List.all_eq_true.1 houts p hp)) h4
   exact fin I2 hd ((freeR_congr (G := G') (G' := G2) rfl rfl hv hres).ren hmok fun _ _ h => h) (by simpa only [Env.puts_append, MC.res, MC.ws, MC.fwd] using hK)
theorem core0Sound (hI : Inv w0 Pr0 G e a.tmps w) (hd : a.defers = []) {o : Oper} {R : Ws → Prop} (hdl : ∀ d, o.dst = some d → d < e.o.length) (h : awpCore0 P e o R) :
 ∃ ws, R ws ∧ (∀ R' : Ws → Prop, R' ws → awpCore0 P e o R') ∧ ∀ (K : Act → World → Prop) (Q : Exit → Act → World → Prop), (∀ G' tm' w', Inv w0 Pr0 G' (e.puts ws) tm' w' → K ⟨tm', []⟩ w') → o.wp P a w K Q := by
 unfold awpCore0 at h
 split at h
 · rename_i f args ats ho
   cases hf : e.ev f with
   | fn g caps =>
     cases hfr : e.frzA (args.toList.map e.ev) with
     | none => rw [hf, hfr] at h; exact h.elim
     | some q =>
       obtain ⟨as, ws⟩ := q
       rw [hf, hfr] at h
       obtain ⟨r, ⟨hgo, hg⟩, hR⟩ := h
       refine ⟨_, hR, fun R' hR' => ?_, fun K Q hK => callSound hI hd ho hf hfr hgo hg hK⟩
       unfold awpCore0
       rw [ho]
       simp only [hf, hfr]
       exact ⟨r, ⟨hgo, hg⟩, hR'⟩
   | _ => rw [hf] at h; exact h.elim
 · rename_i hne
   cases hop : absOp P e o with
   | none => rw [hop] at h; exact h.elim
   | some ws =>
     rw [hop] at h
     refine ⟨ws, h, fun R' hR' => ?_, fun K Q hK => opSound hI hd hdl hop hK⟩
     unfold awpCore0
     split
     · rename_i f args ats ho
       exact absurd ho (hne f args ats)
     · rw [hop]; exact hR'
theorem coreSound (hI : Inv w0 Pr0 G e a.tmps w) (hd : a.defers = []) {o : Oper} {R : Ws → Prop} (hdl : ∀ d, o.dst = some d → d < e.o.length) (h : awpCore P e o R) :
 ∃ ws, R ws ∧ (∀ R' : Ws → Prop, R' ws → awpCore P e o R') ∧ ∀ (K : Act → World → Prop) (Q : Exit → Act → World → Prop), (∀ G' tm' w', Inv w0 Pr0 G' (e.puts ws) tm' w' → K ⟨tm', []⟩ w') → o.wp P a w K Q := by
 rcases h with h | h
 · obtain ⟨ws, h1, h2, h3⟩ := core0Sound hI hd hdl h
   exact ⟨ws, h1, fun R' hR' => .inl (h2 R' hR'), h3⟩
 · unfold mcallD at h
   split at h
   · rename_i f args ats ho
     cases hf : e.ev f with
     | fn g caps =>
       cases caps with
       | nil =>
         rw [hf] at h
         obtain ⟨d, hg, hfit, hR⟩ := h
         refine ⟨_, hR, fun R' hR' => .inr ?_, fun K Q hK => hfit.elim (fun hfit => mSound hI hd ho hf hg.1 hg.2 (hfit.fits hdl) hK) fun hfit => lendSound hI hd ho hf hg.1 hg.2 (hfit.lends hdl) hK⟩
         unfold mcallD
         rw [ho]
         simp only [hf]
         exact ⟨d, hg, hfit, hR'⟩
       | cons c caps => rw [hf] at h; exact h.elim
     | _ => rw [hf] at h; exact h.elim
   · exact h.elim
theorem wanted_none {o : Oper} (h : o.guard = none) (y : Nat → Option Bool) : Region.wanted o y = true := by simp [Region.wanted, h]
theorem oneSound (hI : Inv w0 Pr0 G e a.tmps w) (hd : a.defers = []) {ops : Array Oper} {o : Oper} {R : Ws → Prop} (hdl : ∀ d, o.dst = some d → d < e.o.length) (h : awpOp P ops.toList e o R) :
 ∃ ws, R ws ∧ (∀ R' : Ws → Prop, R' ws → awpOp P ops.toList e o R') ∧ ∀ (K : Act → World → Prop) (Q : Exit → Act → World → Prop), (∀ G' tm' w', Inv w0 Pr0 G' (e.puts ws) tm' w' → K ⟨tm', []⟩ w') →
  if Region.wanted o (yielded ops a.tmps) then o.wp P a w K Q else K (a.put o.dst undef) w := by
 unfold awpOp at h
 cases hg : o.guard with
 | none =>
   rw [hg] at h
   obtain ⟨ws, h1, h2, h3⟩ := coreSound hI hd hdl h
   refine ⟨ws, h1, fun R' hR' => by unfold awpOp; rw [hg]; exact h2 R' hR', fun K Q hK => ?_⟩
   rw [if_pos (wanted_none hg _)]
   exact h3 K Q hK
 | some q =>
   obtain ⟨j, want⟩ := q
   rw [hg] at h
   simp only at h
   cases hj : dstOf ops.toList j with
   | none => rw [hj] at h; exact h.elim
   | some d =>
     rw [hj] at h
     simp only at h
     cases hb : e.gs d with
     | bool b =>
       rw [hb] at h
       simp only at h
       have hv := hI.slot d
       rw [hb] at hv
       have hvv : a.tmps.getD d undef = .bool b := by generalize a.tmps.getD d undef = q at hv; cases hv; rfl
       have hy : yielded ops a.tmps j = some b := by
        unfold yielded
        unfold dstOf at hj
        rw [Array.getElem?_toList] at hj
        rw [hj]
        simp only [Option.bind_some]
        rw [Array.getD_eq_getD_getElem?] at hvv
        cases hq : a.tmps[d]? with
        | none => rw [hq] at hvv; cases hvv
        | some u => rw [hq] at hvv; simp only [Option.getD_some] at hvv; subst hvv; rfl
       have hw : Region.wanted o (yielded ops a.tmps) = (b == want) := by
        simp only [Region.wanted, hg, hy]
        cases b <;> cases want <;> rfl
       split at h
       · rename_i hbw
         obtain ⟨ws, h1, h2, h3⟩ := coreSound hI hd hdl h
         refine ⟨ws, h1, fun R' hR' => by unfold awpOp; rw [hg]; simp only [hj, hb]; rw [if_pos hbw]; exact h2 R' hR', fun K Q hK => ?_⟩
         rw [hw, if_pos (by simp [hbw])]
         exact h3 K Q hK
       · rename_i hbw
         refine ⟨_, h, fun R' hR' => by unfold awpOp; rw [hg]; simp only [hj, hb]; rw [if_neg hbw]; exact hR', fun K Q hK => ?_⟩
         rw [hw, if_neg (by simp [hbw])]
         exact fin hI hd (.tup [] #[] rfl (by simp)) hK
     | tup cs =>
       rw [hb] at h
       simp only at h
       have hv := hI.slot d
       rw [hb] at hv
       have hvv : ∃ vs, a.tmps.getD d undef = .tuple vs := by generalize a.tmps.getD d undef = q at hv; cases hv; exact ⟨_, rfl⟩
       obtain ⟨vs, hvv⟩ := hvv
       have hy : yielded ops a.tmps j = none := by
        unfold yielded
        unfold dstOf at hj
        rw [Array.getElem?_toList] at hj
        rw [hj]
        simp only [Option.bind_some]
        rw [Array.getD_eq_getD_getElem?] at hvv
        cases hq : a.tmps[d]? with
        | none => rfl
        | some u => rw [hq] at hvv; simp only [Option.getD_some] at hvv; subst hvv; rfl
       have hw : Region.wanted o (yielded ops a.tmps) = false := by
        simp only [Region.wanted, hg, hy]
        cases want <;> rfl
       refine ⟨_, h, fun R' hR' => by unfold awpOp; rw [hg]; simp only [hj, hb]; exact hR', fun K Q hK => ?_⟩
       rw [hw, if_neg (by simp)]
       exact fin hI hd (.tup [] #[] rfl (by simp)) hK
     | _ => rw [hb] at h; exact h.elim
theorem oneSoundX (hI : Inv w0 Pr0 G e a.tmps w) (hd : a.defers = []) {ops : Array Oper} {o : Oper} {R : Ws → Prop} (hdl : ∀ d, o.dst = some d → d < e.o.length) (h : awpOpX P ops.toList e o R) :
 ∃ ws, R ws ∧ ∀ (K : Act → World → Prop) (Q : Exit → Act → World → Prop), (∀ G' tm' w', Inv w0 Pr0 G' (e.puts ws) tm' w' → K ⟨tm', []⟩ w') →
  if Region.wanted o (yielded ops a.tmps) then o.wp P a w K Q else K (a.put o.dst undef) w := by
 rcases h with h | h
 · obtain ⟨ws, h1, _, h3⟩ := oneSound hI hd hdl h
   exact ⟨ws, h1, h3⟩
 · have core : ∀ (hm : mcall P e o R), ∃ ws, R ws ∧ ∀ (K : Act → World → Prop) (Q : Exit → Act → World → Prop), (∀ G' tm' w', Inv w0 Pr0 G' (e.puts ws) tm' w' → K ⟨tm', []⟩ w') → o.wp P a w K Q := by
    intro hm
    unfold mcall at hm
    split at hm
    · rename_i f args ats ho
      split at hm
      · rename_i g hf
        obtain ⟨d, ⟨hgo, hgm⟩, hfit, hR⟩ := hm
        exact ⟨_, hR, fun K Q hK => hfit.elim (fun hfit => mSound hI hd ho hf hgo hgm hfit hK) fun hfit => lendSound hI hd ho hf hgo hgm hfit hK⟩
      · exact hm.elim
    · exact hm.elim
   unfold mcallG at h
   cases hg : o.guard with
   | none =>
     rw [hg] at h
     obtain ⟨ws, h1, h2⟩ := core h
     refine ⟨ws, h1, fun K Q hK => ?_⟩
     rw [if_pos (wanted_none hg _)]
     exact h2 K Q hK
   | some q =>
     obtain ⟨j, want⟩ := q
     rw [hg] at h
     simp only at h
     cases hj : dstOf ops.toList j with
     | none => rw [hj] at h; exact h.elim
     | some d =>
       rw [hj] at h
       simp only at h
       cases hb : e.gs d with
       | bool b =>
         rw [hb] at h
         obtain ⟨hbw, h⟩ := h
         obtain ⟨ws, h1, h2⟩ := core h
         refine ⟨ws, h1, fun K Q hK => ?_⟩
         have hv := hI.slot d
         rw [hb] at hv
         have hvv : a.tmps.getD d undef = .bool b := by generalize a.tmps.getD d undef = q at hv; cases hv; rfl
         have hy : yielded ops a.tmps j = some b := by
          unfold yielded
          unfold dstOf at hj
          rw [Array.getElem?_toList] at hj
          rw [hj]
          simp only [Option.bind_some]
          rw [Array.getD_eq_getD_getElem?] at hvv
          cases hq : a.tmps[d]? with
          | none => rw [hq] at hvv; cases hvv
          | some u => rw [hq] at hvv; simp only [Option.getD_some] at hvv; subst hvv; rfl
         have hw : Region.wanted o (yielded ops a.tmps) = true := by
          simp only [Region.wanted, hg, hy]
          subst hbw
          cases b <;> rfl
         rw [hw, if_pos rfl]
         exact h2 K Q hK
       | _ => rw [hb] at h; exact h.elim
theorem Inv.forgetS {tm : Array Value} (h : Inv w0 Pr0 G e tm w) (t : Nat) : Inv w0 Pr0 G (e.put (.s t) .any) tm w where
 gle := h.gle
 below := h.below
 pr0 := h.pr0
 prB := h.prB
 gl := h.gl
 prlt := h.prlt
 len := by simp [h.len]
 slots u b v h1 h2 := by
  simp only [Env.put, List.getElem?_set] at h1
  split at h1
  · split at h1
    · cases h1; exact .any v
    · cases h1
  · exact h.slots u b v h1 h2
 objs t := h.objs t
 sep := h.sep
theorem Inv.clrS {tm : Array Value} {w : World} : ∀ (ks : List Nat) {G : Gh} {e : Env}, Inv w0 Pr0 G e tm w → Inv w0 Pr0 G (clrS ks e) tm w ∧ (Ab.clrS ks e).o.length = e.o.length
 | [], _, _, h => ⟨h, rfl⟩
 | k :: ks, _, _, h => by
   obtain ⟨h1, h2⟩ := Inv.clrS ks (h.forgetS k)
   exact ⟨h1, by rw [Ab.clrS, h2]; simp⟩
theorem preSound {ops : Array Oper} {N : Nat} {Q : Exit → Act → World → Prop} {R : Env → Prop} {l2 : List Oper} (hQ : ∀ G' e' tm' w', R e' → e'.o.length = N → Inv w0 Pr0 G' e' tm' w' → wpList P ops Q l2 ⟨tm', []⟩ w') :
 ∀ (l : List Oper) (G : Gh) (e : Env) (a : Act) (w : World), Inv w0 Pr0 G e a.tmps w → a.defers = [] → e.o.length = N → (∀ o ∈ l, ∀ d, o.dst = some d → d < N) → awpOps0 P ops.toList l e R → wpList P ops Q (l ++ l2) a w
 | [], G, e, a, w, hI, hd, hN, hdl, h => by
    obtain ⟨tm, ds⟩ := a
    simp only at hd; subst hd
    exact hQ G e tm w h hN hI
 | o :: rest, G, e, a, w, hI, hd, hN, hdl, h => by
   obtain ⟨ws, h1, h3⟩ := oneSoundX hI hd (ops := ops) (fun d hd => by rw [hN]; exact hdl o (by simp) d hd) h
   refine wpList_step (fun K hK => h3 K Q (fun G' tm' w' hI' => hK _ _ ?_))
   exact preSound hQ rest G' (e.puts ws) ⟨tm', []⟩ w' hI' rfl (by rw [Env.puts_olen, hN]) (fun o' ho' => hdl o' (by simp [ho'])) h1
theorem opsSound {K : List (Nat × List Nat × List Nat)} {ops : Array Oper} {N : Nat} {Q : Exit → Act → World → Prop} {R : Env → Prop} (hQ : ∀ G' e' tm' w', R e' → e'.o.length = N → Inv w0 Pr0 G' e' tm' w' → Q .normal ⟨tm', []⟩ w') :
 ∀ (l : List Oper) (n : Nat) (G : Gh) (e : Env) (a : Act) (w : World), Inv w0 Pr0 G e a.tmps w → a.defers = [] → e.o.length = N → (∀ o ∈ l, ∀ d, o.dst = some d → d < N) → awpOps P K ops.toList n l e R → wpList P ops Q (l.drop n) a w
 | [], n, G, e, a, w, hI, hd, hN, hdl, h => by
    obtain ⟨tm, ds⟩ := a
    simp only at hd; subst hd
    simp only [awpOps] at h
    rw [List.drop_nil]
    exact hQ G e tm w h hN hI
 | o :: rest, n + 1, G, e, a, w, hI, hd, hN, hdl, h => by
    exact opsSound hQ rest n G e a w hI hd hN (fun o' ho' => hdl o' (by simp [ho'])) h
 | o :: rest, 0, G, e, a, w, hI, hd, hN, hdl, h => by
   simp only [awpOps] at h
   rw [List.drop_zero]
   split at h
   · rename_i m d ks _
     obtain ⟨B, h1, h2⟩ := h
     have := preSound (l2 := rest.drop m) (fun G' e' tm' w' hR hN' hI' => by
      obtain ⟨h3, h4⟩ := hI'.clrS ks
      rw [hR] at h3 h4
      exact opsSound hQ rest m G' _ ⟨tm', []⟩ w' h3 rfl (h4.trans hN') (fun o' ho' => hdl o' (by simp [ho'])) h2) _ G e a w hI hd hN (fun o' ho' => hdl o' (List.mem_of_mem_take ho')) h1
     rwa [List.take_succ_cons, List.cons_append, List.take_append_drop] at this
   · obtain ⟨ws, h1, h3⟩ := oneSoundX hI hd (ops := ops) (fun d hd => by rw [hN]; exact hdl o (by simp) d hd) h
     refine wpList_step (fun K hK => h3 K Q (fun G' tm' w' hI' => hK _ _ ?_))
     exact opsSound hQ rest 0 G' (e.puts ws) ⟨tm', []⟩ w' hI' rfl (by rw [Env.puts_olen, hN]) (fun o' ho' => hdl o' (by simp [ho'])) h1
end
end Go.Proofs.YtbhgehhmjpipiaaGreatDoor.Ab
