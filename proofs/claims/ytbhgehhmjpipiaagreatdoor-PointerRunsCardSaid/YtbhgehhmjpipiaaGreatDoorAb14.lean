/- The abstract machine as a list of equations without binders: by these a function's text is run. -/
import Derived.Test.YtbhgehhmjpipiaaGreatDoorAb13
import Derived.KernelRfl
set_option linter.unusedSectionVars false
set_option linter.unusedSimpArgs false
set_option linter.unusedVariables false
namespace Go.Proofs.YtbhgehhmjpipiaaGreatDoor.Ab
open Go Go.RowKit
variable [Inhabited DW]
theorem nr {α : Type _} {a b : α} (h : a = b) : a = b := by cases h; exact Eq.refl _
inductive SI where
 | code (c : Code)
 | inBlock (id : Nat)
 | inLoop (c : Code)
abbrev KK := List (Nat × List Nat × List Nat)
def contS (P : Program) (K : KK) (Q : Env → Prop) : List SI → AEx → Env → Prop
 | [], x, e => match x with
   | .exit _ => False
   | _ => Q e
 | .code c :: st, x, e => match x with
   | .normal => awp P K c e (contS P K Q st)
   | x => contS P K Q st x e
 | .inBlock id :: st, x, e => match x with
   | .exit i => if i = id then contS P K Q st .normal e else contS P K Q st (.exit i) e
   | x => contS P K Q st x e
 | .inLoop c :: st, x, e => match x with
   | .normal => LoopOk (fun e R => awp P K c e R) (clr (lookK K (firstReg c))) (contS P K Q st) e
   | x => contS P K Q st x e
def run (P : Program) (K : KK) (Q : Env → Prop) (st : List SI) (e : Env) : Prop := contS P K Q st .normal e
def loopS (P : Program) (K : KK) (Q : Env → Prop) (c : Code) (st : List SI) (e : Env) : Prop := LoopOk (fun e R => awp P K c e R) (clr (lookK K (firstReg c))) (contS P K Q st) e
def opsS (P : Program) (K : KK) (Q : Env → Prop) (all rest : List Oper) (st : List SI) (e : Env) : Prop := awpOps P K all 0 rest e (contS P K Q st .normal)
def drawS (P : Program) (K : KK) (Q : Env → Prop) (all rest : List Oper) (st : List SI) (tr : List (List Nat × List Nat)) (e : Env) : Prop := awpDraw P all rest e tr (contS P K Q st .normal)
inductive Tok (A : Prop) : Type where
 | mk : Tok A
def ifP (c a b : Prop) (_ : Tok a) (_ : Tok b) : Prop := (c → a) ∧ (¬c → b)
def bothP (a b : Prop) (_ : Tok a) (_ : Tok b) : Prop := a ∧ b
theorem bothI {a b : Prop} {t : Tok a} {u : Tok b} (h1 : a) (h2 : b) : bothP a b t u := ⟨h1, h2⟩
theorem ifP_eq (c : Prop) [Decidable c] (a b : Prop) (t : Tok a) (u : Tok b) : ifP c a b t u = if c then a else b := by
 unfold ifP
 split <;> simp [*]
theorem ifP_true (a b : Prop) (t : Tok a) (u : Tok b) : ifP True a b t u = a := by simp [ifP]
theorem ifP_false (a b : Prop) (t : Tok a) (u : Tok b) : ifP False a b t u = b := by simp [ifP]
theorem ifI {c a b : Prop} {t : Tok a} {u : Tok b} (h1 : c → a) (h2 : ¬c → b) : ifP c a b t u := ⟨h1, h2⟩
section
variable {P : Program} {K : KK} {Q : Env → Prop}
def exitS (P : Program) (K : KK) (Q : Env → Prop) (id : Nat) (st : List SI) (e : Env) : Prop := contS P K Q st (.exit id) e
def condS (P : Program) (K : KK) (Q : Env → Prop) (t f : Code) (st : List SI) (e : Env) (b : AV) : Prop := match b with
 | .bool b => if b = true then run P K Q (.code t :: st) e else run P K Q (.code f :: st) e
 | .ub => bothP (run P K Q (.code t :: st) e) (run P K Q (.code f :: st) e) .mk .mk
 | _ => False
theorem run_nil (e : Env) : run P K Q [] e = Q e := nr rfl
theorem run_skip (st : List SI) (e : Env) : run P K Q (.code .skip :: st) e = run P K Q st e := nr rfl
theorem run_seq (a b : Code) (st : List SI) (e : Env) : run P K Q (.code (.seq a b) :: st) e = run P K Q (.code a :: .code b :: st) e := by
 simp only [run, contS, awp]
 congr 1
theorem run_block (id : Nat) (c : Code) (st : List SI) (e : Env) : run P K Q (.code (.block id c) :: st) e = run P K Q (.code c :: .inBlock id :: st) e := by
 simp only [run, contS, awp]
 congr 1
theorem run_inBlock (id : Nat) (st : List SI) (e : Env) : run P K Q (.inBlock id :: st) e = run P K Q st e := nr rfl
theorem run_exit (id : Nat) (st : List SI) (e : Env) : run P K Q (.code (.exit id) :: st) e = exitS P K Q id st e := nr rfl
theorem exit_code (id : Nat) (c : Code) (st : List SI) (e : Env) : exitS P K Q id (.code c :: st) e = exitS P K Q id st e := nr rfl
theorem exit_inLoop (id : Nat) (c : Code) (st : List SI) (e : Env) : exitS P K Q id (.inLoop c :: st) e = exitS P K Q id st e := nr rfl
theorem exit_inBlock (id i : Nat) (st : List SI) (e : Env) : exitS P K Q id (.inBlock i :: st) e = if id = i then run P K Q st e else exitS P K Q id st e := nr rfl
theorem ret_all (st : List SI) (e : Env) : contS P K Q st .ret e = Q e := by
 induction st with
 | nil => rfl
 | cons x st ih => cases x <;> exact ih
theorem run_ret (st : List SI) (e : Env) : run P K Q (.code .ret :: st) e = Q e := ret_all st e
theorem run_cond (c : Operand) (t f : Code) (st : List SI) (e : Env) : run P K Q (.code (.cond c t f) :: st) e = condS P K Q t f st e (e.ev c) := by
 simp only [run, contS, awp, condS]
 cases e.ev c <;> rfl
theorem condS_ub (t f : Code) (st : List SI) (e : Env) : condS P K Q t f st e .ub = bothP (run P K Q (.code t :: st) e) (run P K Q (.code f :: st) e) .mk .mk := nr rfl
theorem condS_bool (t f : Code) (st : List SI) (e : Env) (b : Bool) : condS P K Q t f st e (.bool b) = ifP (b = true) (run P K Q (.code t :: st) e) (run P K Q (.code f :: st) e) .mk .mk := (ifP_eq _ _ _ _ _).symm
theorem run_loop (c : Code) (st : List SI) (e : Env) : run P K Q (.code (.loop c) :: st) e = loopS P K Q c st e := nr rfl
theorem run_inLoop (c : Code) (st : List SI) (e : Env) : run P K Q (.inLoop c :: st) e = loopS P K Q c st e := nr rfl
def regS (P : Program) (K : KK) (Q : Env → Prop) (draw : Bool) (l : List Oper) (st : List SI) (e : Env) : Option (Nat × Nat × List Nat) → Prop
 | some (_, d, ks) => ∃ B : Bool, (if draw then drawS P K (fun e1 => clrS ks e1 = clrS ks (e.put (.s d) (.bool B))) l l [] [] e else opsS P K (fun e1 => clrS ks e1 = clrS ks (e.put (.s d) (.bool B))) l l [] e) ∧ run P K Q st (clrS ks (e.put (.s d) (.bool B)))
 | none => if draw then drawS P K Q l l st [] e else opsS P K Q l l st e
theorem regS_none (draw : Bool) (l : List Oper) (st : List SI) (e : Env) : regS P K Q draw l st e none = if draw then drawS P K Q l l st [] e else opsS P K Q l l st e := nr rfl
def regPick (P : Program) (K : KK) (Q : Env → Prop) (draw : Bool) (l : List Oper) (st : List SI) (e : Env) (j : Option (Nat × Nat × List Nat)) : List Nat → Prop
 | [] => regS P K Q draw l st e j
 | _ :: _ => ∃ hs : List Nat, regS P K Q draw l st (clrO hs e) j
theorem regPick_nil (draw : Bool) (l : List Oper) (st : List SI) (e : Env) (j : Option (Nat × Nat × List Nat)) : regPick P K Q draw l st e j [] = regS P K Q draw l st e j := nr rfl
theorem run_region (id : Nat) (l : List Oper) (draw : Bool) (st : List SI) (e : Env) : run P K Q (.code (.region id l.toArray draw) :: st) e = regPick P K Q draw l st (clr (lookK K (3000000 + id)) e) (lookJ K (2000000 + id)) (lookK K (4000000 + id)).1 := by
 have key : ∀ e, awpReg P K id l.toArray draw e (contS P K Q st) = regS P K Q draw l st e (lookJ K (2000000 + id)) := fun e => by
  simp only [awpReg]
  cases lookJ K (2000000 + id) with
  | none => cases draw <;> rfl
  | some q => obtain ⟨m, d, ks⟩ := q; cases draw <;> rfl
 simp only [run, contS, awp]
 cases (lookK K (4000000 + id)).1 with
 | nil => exact key _
 | cons k ks =>
   simp only [pickP, regPick, key]
theorem regD_of (B : Bool) {l : List Oper} {st : List SI} {e : Env} {m d : Nat} {ks : List Nat} (h1 : drawS P K (fun e1 => clrS ks e1 = clrS ks (e.put (.s d) (.bool B))) l l [] [] e) (h2 : run P K Q st (clrS ks (e.put (.s d) (.bool B)))) : regS P K Q true l st e (some (m, d, ks)) := ⟨B, h1, h2⟩
theorem loop_unfold {c : Code} {st : List SI} {e : Env} (h : run P K Q (.code c :: .inLoop c :: st) (clr (lookK K (firstReg c)) e)) : loopS P K Q c st e := by
 unfold loopS
 refine .mk e (contS P K Q (.inLoop c :: st)) ?_ (fun e' h => h) (fun x e' hx hR => ?_)
 · exact h
 · cases x with
   | normal => exact absurd rfl hx
   | exit id => exact hR
   | ret => exact hR
theorem loop_congr {c : Code} {st : List SI} {e e' : Env} (h : clr (lookK K (firstReg c)) e = clr (lookK K (firstReg c)) e') (k : loopS P K Q c st e) : loopS P K Q c st e' := by
 unfold loopS at k ⊢
 cases k with
 | mk _ R h1 hn hx => exact .mk e' R (by rw [← h]; exact h1) hn hx
theorem loop_rule {ι : Type} {c : Code} {st : List SI} {e0 : Env} (vs : ι → Ws) (μ : ι → Nat) (I : ι → Prop) (x0 : ι) (hI : I x0) (h0 : clr (lookK K (firstReg c)) (e0.puts (vs x0)) = clr (lookK K (firstReg c)) e0)
 (step : ∀ x, I x → (∀ y e', I y → μ y < μ x → clr (lookK K (firstReg c)) (e0.puts (vs y)) = clr (lookK K (firstReg c)) e' → loopS P K Q c st e') → run P K Q (.code c :: .inLoop c :: st) (clr (lookK K (firstReg c)) (e0.puts (vs x)))) : loopS P K Q c st e0 := by
 have key : ∀ n x, μ x = n → I x → loopS P K Q c st (e0.puts (vs x)) := by
  intro n
  induction n using Nat.strongRecOn with
  | _ n ih =>
    intro x hx hIx
    exact loop_unfold (step x hIx fun y e' hy hlt he => loop_congr he (ih (μ y) (by omega) y rfl hy))
 exact loop_congr h0 (key _ x0 rfl hI)
theorem loop_by {ι : Type} {c : Code} {st : List SI} {e0 : Env} (kk : List Nat × List Nat) (vs : ι → Ws) (μ : ι → Nat) (I : ι → Prop) (x0 : ι) (hk : lookK K (firstReg c) = kk) (hI : I x0) (h0 : clr kk (e0.puts (vs x0)) = clr kk e0)
 (step : ∀ (c' : Code) (st' : List SI), st' = st → ∀ x, I x → (∀ y e', I y → μ y < μ x → clr kk (e0.puts (vs y)) = clr kk e' → loopS P K Q c' st' e') → run P K Q (.code c :: .inLoop c' :: st') (clr kk (e0.puts (vs x)))) : loopS P K Q c st e0 := by
 subst hk
 exact loop_rule vs μ I x0 hI h0 fun x hx ih => step c st rfl x hx ih
def Env.putD (e : Env) (d : Option Nat) (a : AV) : Env := match d with
 | some d => e.put (.s d) a
 | none => e
theorem puts_oneS (e : Env) (o : Oper) (a : AV) : e.puts (oneS o a) = e.putD o.dst a := by
 unfold oneS Env.putD
 cases o.dst <;> rfl
def valS (P : Program) (K : KK) (Q : Env → Prop) (all rest : List Oper) (st : List SI) (e : Env) (d : Option Nat) : Option AV → Prop
 | some a => opsS P K Q all rest st (e.putD d a)
 | none => False
def awS (P : Program) (K : KK) (Q : Env → Prop) (all rest : List Oper) (st : List SI) (e : Env) (d : Option Nat) : Option (AV × Ws) → Prop
 | some (a, ws) => opsS P K Q all rest st ((e.puts ws).putD d a)
 | none => False
def guardS (P : Program) (K : KK) (Q : Env → Prop) (all rest : List Oper) (st : List SI) (e : Env) (o : Oper) (want : Bool) : AV → Prop
 | .bool b => if b = want then opsS P K Q all (o :: rest) st e else opsS P K Q all rest st (e.putD o.dst (.tup []))
 | .tup _ => opsS P K Q all rest st (e.putD o.dst (.tup []))
 | _ => False
def callS (P : Program) (K : KK) (Q : Env → Prop) (all rest : List Oper) (st : List SI) (e : Env) (d : Option Nat) (g : FuncId) (fr : Option (List AV × Ws)) (caps raw : List AV) : Prop :=
 ((∃ args ws, fr = some (args, ws) ∧ ∃ r, (goes P g = true ∧ Good P g args r) ∧ opsS P K Q all rest st ((e.puts (if r.flat then [] else ws)).putD d r)) ∨
   (caps = [] ∧ ∃ m : MC, (goes P g = true ∧ GoodM P g m.N m.os m.args m.r m.out) ∧ (m.FitsD e raw d ∨ m.LendsD e raw d) ∧ opsS P K Q all rest st ((e.puts (m.ws e)).putD d (m.res e)))) ∨
   (caps = [] ∧ ∃ m : MC, (goes P g = true ∧ GoodM P g m.N m.os m.args m.r m.out) ∧ (m.Fits e raw ∨ m.Lends e raw) ∧ opsS P K Q all rest st ((e.puts (m.ws e)).putD d (m.res e)))
def callF (P : Program) (K : KK) (Q : Env → Prop) (all rest : List Oper) (st : List SI) (e : Env) (d : Option Nat) (f : AV) (as : Option (List AV × Ws)) (raw : List AV) : Prop := match f with
 | .fn g caps => callS P K Q all rest st e d g (as.map fun q => (q.1 ++ caps, q.2)) caps raw
 | _ => False
def pickV (c a b : AV) : Option AV := match c with
 | .bool t => some (pickAV t a b)
 | _ => none
def fieldAddrV (f : Option (Nat × TypeId)) (sz : Option Nat) (at_ : Option (List AV)) (x : AV) : Option AV := match f, at_ with
 | some (off, _), some _ => match sz with
   | some (_ + 1) => addOff off x
   | _ => none
 | _, _ => none
def fieldV (f : Option (Nat × TypeId)) (ag : Option Bool) (sz : Option Nat) (x : AV) : Option AV := match f, x with
 | some (off, _), .agg cs => match ag with
   | some true => match sz with
     | some n => if off + n ≤ cs.length then some (.agg ((cs.drop off).take n)) else none
     | none => none
   | some false => cs[off]?
   | none => none
 | _, _ => none
def indexV (isS : Bool) (x i : AV) : Option AV := match x, i with
 | .str s, .int _ n => if isS = true then if 0 ≤ n then if n < s.size then some (.int .u8 (byteAt s n.toNat)) else none else none else none
 | _, _ => none
def indexAddrV (P : Program) (e : Env) (ty : TypeId) (x i : AV) : Option AV := match i with
 | .int _ n => e.index P ty x n
 | _ => none
def extractV (x : AV) (i : Nat) : Option AV := match x with
 | .tup vs => vs[i]?
 | _ => none
def nilCheckV (at_ : Option (List AV)) (x : AV) : Option AV := match at_ with
 | some _ => some x
 | none => none
def fnV (f : FuncId) (r : Option (List AV × Ws)) : Option (AV × Ws) := match r with
 | some (cs, ws) => if cs.all AV.cellP = true then some (.fn f cs, ws) else none
 | none => none
def aggV (x : Option (List AV)) : Option AV := match x with
 | some cs => some (.agg cs)
 | none => none
def buildV (pl : Option (List (Nat × Nat))) (z : Option (List AV)) (parts : List (Nat × AV)) : Option AV := match pl, z with
 | some pl, some z => aggV (layParts (fun i => pl[i]?) z parts)
 | _, _ => none
def newV (d : Nat) (ver : Nat) (ty : TypeId) (cs : Option (List AV)) : Option (AV × Ws) := match cs with
 | some cs => some (.loc d ver 0 0, [(.o d, .obj ver ty cs.length false false [cs])])
 | none => none
def boxV (d : Nat) (ver : Nat) (ty : TypeId) (cs : Option (List AV)) : Option (AV × Ws) := match cs with
 | some cs => if 0 < cs.length then some (.loc d ver 0 0, [(.o d, .obj ver ty cs.length false false [cs])]) else none
 | none => none
def rowV (d ver : Nat) (et : TypeId) (n esz : Nat) (ws : Ws) (cs : Option (List AV)) : Option (AV × Ws) := match cs with
 | some cs => if cs.length = n * esz ∧ cs.all AV.cellQ = true then some (.ref d ver, ws ++ [(.o d, .obj ver et esz false (cs.all AV.cellP) (chop esz n cs))]) else none
 | none => none
def litV (d ver : Nat) (et : TypeId) (n : Nat) (esz : Option Nat) (z : Option (List AV)) (ix : List Nat) (fr : Option (List AV × Ws)) : Option (AV × Ws) := match esz, z, fr with
 | some esz, some z, some (as, ws) => if 0 < esz ∧ z.length = esz ∧ n * esz ≤ 16777216 then
    rowV d ver et n esz ws (layParts (fun i => some (i * esz, esz)) (List.replicate n z).flatten (ix.zip as)) else none
 | _, _, _ => none
def buildSliceV (P : Program) (d ver : Nat) (et : Option TypeId) (n : Nat) (ix : List Nat) (fr : Option (List AV × Ws)) : Option (AV × Ws) := match et with
 | some et => litV d ver et n (sizeT P et) (zeroT P et) ix fr
 | none => none
def lenV (P : Program) (e : Env) (t : TypeId) (x : AV) : Option AV := match x with
 | .str s => if isStrT P t = true then some (.int .i64 s.size) else none
 | x => match elemT P t, e.count x with
   | some _, some n => some (.int .i64 n)
   | _, _ => none
def rangeV (d ver : Nat) (isS : Bool) (x : AV) : Option (AV × Ws) := match x with
 | .str s => if isS = true then some (.loc d ver 0 0, [(.o d, .iter ver s 0)]) else none
 | _ => none
def capV (P : Program) (t : TypeId) (x : AV) : Option AV := match elemT P t, x with
 | some _, .nils => some (.int .i64 0)
 | _, _ => none
def maxV (x y : AV) : Option AV := match x, y with
 | .int k x, .int k' y => if k = k' then some (.int k (if x < y then y else x)) else none
 | _, _ => none
def minV (x y : AV) : Option AV := match x, y with
 | .int k x, .int k' y => if k = k' then some (.int k (if y < x then y else x)) else none
 | _, _ => none
variable {all rest : List Oper} {st : List SI} {e : Env} {d : Option Nat} {t : TypeId} {p : String} {af : Array Edge}
theorem opsS_nil : opsS P K Q all [] st e = run P K Q st e := nr rfl
theorem mcallD_no {o : Oper} (hc : ∀ f args ats, o.op ≠ .call ⟨.value f, args, ats⟩) {R : Ws → Prop} : mcallD P e o R = False := by
 unfold mcallD
 split
 · rename_i f args ats ho; exact absurd ho (hc f args ats)
 · rfl
theorem mcall_no {o : Oper} (hc : ∀ f args ats, o.op ≠ .call ⟨.value f, args, ats⟩) {R : Ws → Prop} : mcall P e o R = False := by
 unfold mcall
 split
 · rename_i f args ats ho; exact absurd ho (hc f args ats)
 · rfl
theorem ops_abs {o : Oper} (hg : o.guard = none) (hc : ∀ f args ats, o.op ≠ .call ⟨.value f, args, ats⟩) : opsS P K Q all (o :: rest) st e = match absOp P e o with
 | some ws => opsS P K Q all rest st (e.puts ws)
 | none => False := by
 have h : ∀ R : Ws → Prop, awpCore P e o R = match absOp P e o with
  | some ws => R ws
  | none => False := fun R => by
  unfold awpCore
  rw [mcallD_no hc, or_false]
  unfold awpCore0
  split
  · rename_i f args ats ho; exact absurd ho (hc f args ats)
  · rfl
 have hj : joinOf K o = none := by unfold joinOf; rw [hg]
 simp only [opsS, awpOps, awpOpX, mcallG, awpOp, hg, h, hj, mcall_no hc, or_false]
theorem core_guard {op : Op} {g : Option (Nat × Bool)} {R : Ws → Prop} : awpCore P e ⟨d, op, t, p, af, g⟩ R = awpCore P e ⟨d, op, t, p, af, none⟩ R := by
 cases op with
 | call c =>
   obtain ⟨callee, args, ats⟩ := c
   cases callee <;> rfl
 | _ => rfl
theorem ops_val {o : Oper} (hg : o.guard = none) (hc : ∀ f args ats, o.op ≠ .call ⟨.value f, args, ats⟩) {x : Option AV} (h : absOp P e o = x.map (oneS o)) : opsS P K Q all (o :: rest) st e = valS P K Q all rest st e o.dst x := by
 rw [ops_abs hg hc, h]
 cases x with
 | none => rfl
 | some a => simp only [Option.map_some, valS, puts_oneS]
theorem ops_aw {o : Oper} (hg : o.guard = none) (hc : ∀ f args ats, o.op ≠ .call ⟨.value f, args, ats⟩) {x : Option (AV × Ws)} (h : absOp P e o = x.map fun q => q.2 ++ oneS o q.1) : opsS P K Q all (o :: rest) st e = awS P K Q all rest st e o.dst x := by
 rw [ops_abs hg hc, h]
 cases x with
 | none => rfl
 | some q => simp only [Option.map_some, awS, Env.puts_append, puts_oneS]
def joinS (P : Program) (K : KK) (Q : Env → Prop) (all rest : List Oper) (st : List SI) (e : Env) (o : Oper) (j : Nat) (want : Bool) : Option (Nat × Nat × List Nat) → Prop
 | some (m, d, ks) => ∃ B : Bool, opsS P [] (fun e1 => clrS ks e1 = clrS ks (e.put (.s d) (.bool B))) all (({ o with guard := some (j, want) } :: rest).take (m + 1)) [] e ∧ opsS P K Q all (rest.drop m) st (clrS ks (e.put (.s d) (.bool B)))
 | none => guardS P K Q all rest st e o want (match dstOf all j with
   | some u => e.gs u
   | none => .any)
def joinAt (K : KK) : Option Nat → Option (Nat × Nat × List Nat)
 | some d => lookJ K (1000000 + d)
 | none => none
theorem opsS_guard {op : Op} {j : Nat} {want : Bool} : opsS P K Q all (⟨d, op, t, p, af, some (j, want)⟩ :: rest) st e = joinS P K Q all rest st e ⟨d, op, t, p, af, none⟩ j want (joinAt K d) := by
 have hk : joinOf K ⟨d, op, t, p, af, some (j, want)⟩ = joinAt K d := by unfold joinOf joinAt; cases d <;> rfl
 simp only [opsS, awpOps, hk]
 cases hx : joinAt K d with
 | some q =>
   obtain ⟨m, u, ks⟩ := q
   simp only [joinS, opsS, awpOps_nil]
   congr 1
   funext B
   rw [awpOps_skip]
   rfl
 | none =>
   simp only [joinS, awpOpX, mcallG, awpOp]
   cases hj : dstOf all j with
   | none => simp only [or_false]; rfl
   | some u =>
     simp only
     cases e.gs u with
     | bool b =>
       simp only [guardS]
       split
       · have hk2 : joinOf K ⟨d, op, t, p, af, none⟩ = none := rfl
         have hbw : (b = want) = True := by simp only [eq_iff_iff, iff_true]; assumption
         simp only [opsS, awpOps, hk2, awpOpX, mcallG, awpOp, hbw, true_and]
         exact congrArg (fun q => q ∨ _) core_guard
       · have hbw : (b = want) = False := by simp only [eq_iff_iff, iff_false]; assumption
         simp only [hbw, false_and, or_false]
         rw [show (oneS ⟨d, op, t, p, af, some (j, want)⟩ (.tup [])) = oneS ⟨d, op, t, p, af, none⟩ (.tup []) from rfl, puts_oneS]; rfl
     | tup cs =>
       simp only [guardS, or_false]
       rw [show (oneS ⟨d, op, t, p, af, some (j, want)⟩ (.tup [])) = oneS ⟨d, op, t, p, af, none⟩ (.tup []) from rfl, puts_oneS]; rfl
     | _ => simp only [or_false]; rfl
theorem joinS_none {o : Oper} {j : Nat} {want : Bool} : joinS P K Q all rest st e o j want none = guardS P K Q all rest st e o want (match dstOf all j with
 | some u => e.gs u
 | none => .any) := nr rfl
theorem join_of (B : Bool) {o : Oper} {j : Nat} {want : Bool} {m d : Nat} {ks : List Nat} (h1 : opsS P [] (fun e1 => clrS ks e1 = clrS ks (e.put (.s d) (.bool B))) all (({ o with guard := some (j, want) } :: rest).take (m + 1)) [] e)
 (h2 : opsS P K Q all (rest.drop m) st (clrS ks (e.put (.s d) (.bool B)))) : joinS P K Q all rest st e o j want (some (m, d, ks)) := ⟨B, h1, h2⟩
def valD (P : Program) (K : KK) (Q : Env → Prop) (all rest : List Oper) (st : List SI) (tr : List (List Nat × List Nat)) (e : Env) (d : Option Nat) : Option AV → Prop
 | some a => drawS P K Q all rest st tr (e.putD d a)
 | none => False
def awD (P : Program) (K : KK) (Q : Env → Prop) (all rest : List Oper) (st : List SI) (tr : List (List Nat × List Nat)) (rd : List Nat) (e : Env) (d : Option Nat) : Option (AV × Ws) → Prop
 | some (a, ws) => drawS P K Q all rest st (tr ++ [(rd, wrO ws)]) ((e.puts ws).putD d a)
 | none => False
def guardD (P : Program) (K : KK) (Q : Env → Prop) (all rest : List Oper) (st : List SI) (tr : List (List Nat × List Nat)) (rd : List Nat) (e : Env) (o : Oper) (want : Bool) : AV → Prop
 | .bool b => if b = want then drawS P K Q all (o :: rest) st tr e else drawS P K Q all rest st (tr ++ [(rd, [])]) (e.putD o.dst (.tup []))
 | .tup _ => drawS P K Q all rest st (tr ++ [(rd, [])]) (e.putD o.dst (.tup []))
 | _ => False
def callD (P : Program) (K : KK) (Q : Env → Prop) (all rest : List Oper) (st : List SI) (tr : List (List Nat × List Nat)) (rd : List Nat) (e : Env) (d : Option Nat) (g : FuncId) (fr : Option (List AV × Ws)) (caps raw : List AV) : Prop :=
 (∃ args ws, fr = some (args, ws) ∧ ∃ r, (goes P g = true ∧ Good P g args r) ∧ drawS P K Q all rest st (tr ++ [(rd, wrO (if r.flat then [] else ws))]) ((e.puts (if r.flat then [] else ws)).putD d r)) ∨
   (caps = [] ∧ ∃ m : MC, (goes P g = true ∧ GoodM P g m.N m.os m.args m.r m.out) ∧ (m.FitsD e raw d ∨ m.LendsD e raw d) ∧ drawS P K Q all rest st (tr ++ [(rd, wrO (m.ws e))]) ((e.puts (m.ws e)).putD d (m.res e)))
def callFD (P : Program) (K : KK) (Q : Env → Prop) (all rest : List Oper) (st : List SI) (tr : List (List Nat × List Nat)) (rd : List Nat) (e : Env) (d : Option Nat) (f : AV) (as : Option (List AV × Ws)) (raw : List AV) : Prop := match f with
 | .fn g caps => callD P K Q all rest st tr rd e d g (as.map fun q => (q.1 ++ caps, q.2)) caps raw
 | _ => False
variable {tr : List (List Nat × List Nat)}
theorem wrO_one (ws : Ws) (o : Oper) (a : AV) : wrO (ws ++ oneS o a) = wrO ws := by
 unfold wrO oneS
 rw [List.filterMap_append]
 cases o.dst <;> simp
theorem drawS_nil : drawS P K Q all [] st tr e = (objOk all tr = true ∧ run P K Q st e) := nr rfl
theorem draw_abs {o : Oper} (hg : o.guard = none) (hc : ∀ f args ats, o.op ≠ .call ⟨.value f, args, ats⟩) : drawS P K Q all (o :: rest) st tr e = match absOp P e o with
 | some ws => drawS P K Q all rest st (tr ++ [(rdO e o, wrO ws)]) (e.puts ws)
 | none => False := by
 have h : ∀ R : Ws → Prop, awpCore P e o R = match absOp P e o with
  | some ws => R ws
  | none => False := fun R => by
  unfold awpCore
  rw [mcallD_no hc, or_false]
  unfold awpCore0
  split
  · rename_i f args ats ho; exact absurd ho (hc f args ats)
  · rfl
 simp only [drawS, awpDraw, awpOp, hg, h]
theorem draw_val {o : Oper} (hg : o.guard = none) (hc : ∀ f args ats, o.op ≠ .call ⟨.value f, args, ats⟩) {x : Option AV} (h : absOp P e o = x.map (oneS o)) : drawS P K Q all (o :: rest) st tr e = valD P K Q all rest st (tr ++ [(rdO e o, [])]) e o.dst x := by
 rw [draw_abs hg hc, h]
 cases x with
 | none => rfl
 | some a =>
   have := wrO_one [] o a
   simp only [List.nil_append] at this
   simp only [Option.map_some, valD, puts_oneS, this]
   rfl
theorem draw_aw {o : Oper} (hg : o.guard = none) (hc : ∀ f args ats, o.op ≠ .call ⟨.value f, args, ats⟩) {x : Option (AV × Ws)} (h : absOp P e o = x.map fun q => q.2 ++ oneS o q.1) : drawS P K Q all (o :: rest) st tr e = awD P K Q all rest st tr (rdO e o) e o.dst x := by
 rw [draw_abs hg hc, h]
 cases x with
 | none => rfl
 | some q => simp only [Option.map_some, awD, Env.puts_append, puts_oneS, wrO_one]
theorem drawS_guard {op : Op} {j : Nat} {want : Bool} : drawS P K Q all (⟨d, op, t, p, af, some (j, want)⟩ :: rest) st tr e = guardD P K Q all rest st tr (rdO e ⟨d, op, t, p, af, none⟩) e ⟨d, op, t, p, af, none⟩ want (match dstOf all j with
 | some u => e.gs u
 | none => .any) := by
 simp only [drawS, awpDraw, awpOp]
 cases hj : dstOf all j with
 | none => rfl
 | some u =>
   simp only
   cases e.gs u with
   | bool b =>
     simp only [guardD]
     split
     · simp only [drawS, awpDraw, awpOp]
       exact core_guard
     · have := wrO_one [] ⟨d, op, t, p, af, none⟩ (.tup [])
       simp only [List.nil_append] at this
       rw [show (oneS ⟨d, op, t, p, af, some (j, want)⟩ (.tup [])) = oneS ⟨d, op, t, p, af, none⟩ (.tup []) from rfl, puts_oneS, this]; rfl
   | tup cs =>
     simp only [guardD]
     have := wrO_one [] ⟨d, op, t, p, af, none⟩ (.tup [])
     simp only [List.nil_append] at this
     rw [show (oneS ⟨d, op, t, p, af, some (j, want)⟩ (.tup [])) = oneS ⟨d, op, t, p, af, none⟩ (.tup []) from rfl, puts_oneS, this]; rfl
   | _ => rfl
theorem ex_some {α β : Type} {a : α} {b : β} {F : α → β → Prop} : (∃ x y, some (a, b) = some (x, y) ∧ F x y) ↔ F a b :=
 ⟨fun ⟨x, y, h, hF⟩ => by cases h; exact hF, fun h => ⟨a, b, rfl, h⟩⟩
theorem drawS_call {f : Operand} {l : List Operand} {ats : Array TypeId} : drawS P K Q all (⟨d, .call ⟨.value f, l.toArray, ats⟩, t, p, af, none⟩ :: rest) st tr e = callFD P K Q all rest st tr (rdO e ⟨d, .call ⟨.value f, l.toArray, ats⟩, t, p, af, none⟩) e d (e.ev f) (e.frzA (l.map e.ev)) (l.map e.ev) := by
 simp only [drawS, awpDraw, awpOp, awpCore, awpCore0, mcallD, callFD]
 cases hf : e.ev f with
 | fn g caps =>
   apply propext
   unfold callD
   cases hq : e.frzA (l.map e.ev) with
   | none =>
     simp only [Option.map_none]
     cases caps with
     | nil => simp [drawS, Env.puts_append, puts_oneS, wrO_one]
     | cons c caps => simp
   | some q =>
     obtain ⟨as, ws⟩ := q
     simp only [Option.map_some, ex_some]
     cases caps with
     | nil => simp [drawS, Env.puts_append, puts_oneS, wrO_one]
     | cons c caps => simp [drawS, Env.puts_append, puts_oneS, wrO_one]
 | _ => simp
theorem valD_some {a : AV} : valD P K Q all rest st tr e d (some a) = drawS P K Q all rest st tr (e.putD d a) := nr rfl
theorem valD_none : valD P K Q all rest st tr e d none = False := nr rfl
theorem valD_ite {c : Prop} [Decidable c] {x y : Option AV} : valD P K Q all rest st tr e d (if c then x else y) = ifP c (valD P K Q all rest st tr e d x) (valD P K Q all rest st tr e d y) .mk .mk := by rw [ifP_eq]; split <;> rfl
theorem awD_some {rd : List Nat} {a : AV} {ws : Ws} : awD P K Q all rest st tr rd e d (some (a, ws)) = drawS P K Q all rest st (tr ++ [(rd, wrO ws)]) ((e.puts ws).putD d a) := nr rfl
theorem awD_none {rd : List Nat} : awD P K Q all rest st tr rd e d none = False := nr rfl
theorem awD_ite {rd : List Nat} {c : Prop} [Decidable c] {x y : Option (AV × Ws)} : awD P K Q all rest st tr rd e d (if c then x else y) = ifP c (awD P K Q all rest st tr rd e d x) (awD P K Q all rest st tr rd e d y) .mk .mk := by rw [ifP_eq]; split <;> rfl
theorem guardD_bool {rd : List Nat} {o : Oper} {want b : Bool} : guardD P K Q all rest st tr rd e o want (.bool b) = ifP (b = want) (drawS P K Q all (o :: rest) st tr e) (drawS P K Q all rest st (tr ++ [(rd, [])]) (e.putD o.dst (.tup []))) .mk .mk := (ifP_eq _ _ _ _ _).symm
theorem guardD_tup {rd : List Nat} {o : Oper} {want : Bool} {cs : List AV} : guardD P K Q all rest st tr rd e o want (.tup cs) = drawS P K Q all rest st (tr ++ [(rd, [])]) (e.putD o.dst (.tup [])) := nr rfl
theorem callFD_fn {rd : List Nat} {g : FuncId} {caps raw : List AV} {as : Option (List AV × Ws)} : callFD P K Q all rest st tr rd e d (.fn g caps) as raw = callD P K Q all rest st tr rd e d g (as.map fun q => (q.1 ++ caps, q.2)) caps raw := nr rfl
theorem callD_of {rd : List Nat} {g : FuncId} {args caps raw : List AV} {ws : Ws} {r : AV} (hg : goes P g = true ∧ Good P g args r) (h : drawS P K Q all rest st (tr ++ [(rd, wrO (if r.flat then [] else ws))]) ((e.puts (if r.flat then [] else ws)).putD d r)) : callD P K Q all rest st tr rd e d g (some (args, ws)) caps raw :=
 .inl ⟨args, ws, rfl, r, hg, h⟩
theorem callMD_of (us tg : List Nat) {rd : List Nat} {g : FuncId} {N : Nat} {os args raw : List AV} {r : AV} {out : List (Nat × AV)} {fr : Option (List AV × Ws)} (hg : goes P g = true ∧ GoodM P g N os args r out) (hf : (MC.mk N us os args r out tg).FitsD e raw d)
 (h : drawS P K Q all rest st (tr ++ [(rd, wrO (MC.ws ⟨N, us, os, args, r, out, tg⟩ e))]) ((e.puts (MC.ws ⟨N, us, os, args, r, out, tg⟩ e)).putD d (MC.res ⟨N, us, os, args, r, out, tg⟩ e))) : callD P K Q all rest st tr rd e d g fr [] raw :=
 .inr ⟨rfl, ⟨N, us, os, args, r, out, tg⟩, hg, .inl hf, h⟩
theorem opsS_move {x : Operand} : opsS P K Q all (⟨d, .move x, t, p, af, none⟩ :: rest) st e = opsS P K Q all rest st (e.putD d (e.ev x)) :=
 (ops_val (x := some (e.ev x)) rfl (by simp) rfl)
theorem drawS_move {x : Operand} : drawS P K Q all (⟨d, .move x, t, p, af, none⟩ :: rest) st tr e = drawS P K Q all rest st (tr ++ [(rdO e ⟨d, .move x, t, p, af, none⟩, [])]) (e.putD d (e.ev x)) :=
 (draw_val (x := some (e.ev x)) rfl (by simp) rfl)
theorem opsS_assign {x : Operand} : opsS P K Q all (⟨d, .assign x, t, p, af, none⟩ :: rest) st e = opsS P K Q all rest st (e.putD d (e.ev x)) :=
 (ops_val (x := some (e.ev x)) rfl (by simp) rfl)
theorem drawS_assign {x : Operand} : drawS P K Q all (⟨d, .assign x, t, p, af, none⟩ :: rest) st tr e = drawS P K Q all rest st (tr ++ [(rdO e ⟨d, .assign x, t, p, af, none⟩, [])]) (e.putD d (e.ev x)) :=
 (draw_val (x := some (e.ev x)) rfl (by simp) rfl)
theorem abs_pick {c x y : Operand} : absOp P e ⟨d, .pick c x y, t, p, af, none⟩ = (pickV (e.ev c) (e.ev x) (e.ev y)).map (oneS ⟨d, .pick c x y, t, p, af, none⟩) :=
 (by simp only [absOp, pickV]; cases e.ev c <;> rfl)
theorem opsS_pick {c x y : Operand} : opsS P K Q all (⟨d, .pick c x y, t, p, af, none⟩ :: rest) st e = valS P K Q all rest st e d (pickV (e.ev c) (e.ev x) (e.ev y)) :=
 ops_val rfl (by simp) abs_pick
theorem drawS_pick {c x y : Operand} : drawS P K Q all (⟨d, .pick c x y, t, p, af, none⟩ :: rest) st tr e = valD P K Q all rest st (tr ++ [(rdO e ⟨d, .pick c x y, t, p, af, none⟩, [])]) e d (pickV (e.ev c) (e.ev x) (e.ev y)) :=
 draw_val rfl (by simp) abs_pick
theorem abs_load {ty : TypeId} {x : Operand} : absOp P e ⟨d, .load ty x, t, p, af, none⟩ = (e.load P ty (e.ev x)).map (oneS ⟨d, .load ty x, t, p, af, none⟩) :=
 rfl
theorem opsS_load {ty : TypeId} {x : Operand} : opsS P K Q all (⟨d, .load ty x, t, p, af, none⟩ :: rest) st e = valS P K Q all rest st e d (e.load P ty (e.ev x)) :=
 ops_val rfl (by simp) abs_load
theorem drawS_load {ty : TypeId} {x : Operand} : drawS P K Q all (⟨d, .load ty x, t, p, af, none⟩ :: rest) st tr e = valD P K Q all rest st (tr ++ [(rdO e ⟨d, .load ty x, t, p, af, none⟩, [])]) e d (e.load P ty (e.ev x)) :=
 draw_val rfl (by simp) abs_load
theorem abs_binOp {op : BinOp} {xT yT : TypeId} {x y : Operand} : absOp P e ⟨d, .binOp op xT x y yT, t, p, af, none⟩ = (absBin P op xT (e.ev x) (e.ev y)).map (oneS ⟨d, .binOp op xT x y yT, t, p, af, none⟩) :=
 rfl
theorem opsS_binOp {op : BinOp} {xT yT : TypeId} {x y : Operand} : opsS P K Q all (⟨d, .binOp op xT x y yT, t, p, af, none⟩ :: rest) st e = valS P K Q all rest st e d (absBin P op xT (e.ev x) (e.ev y)) :=
 ops_val rfl (by simp) abs_binOp
theorem drawS_binOp {op : BinOp} {xT yT : TypeId} {x y : Operand} : drawS P K Q all (⟨d, .binOp op xT x y yT, t, p, af, none⟩ :: rest) st tr e = valD P K Q all rest st (tr ++ [(rdO e ⟨d, .binOp op xT x y yT, t, p, af, none⟩, [])]) e d (absBin P op xT (e.ev x) (e.ev y)) :=
 draw_val rfl (by simp) abs_binOp
theorem abs_unOp {op : UnOp} {xT : TypeId} {x : Operand} : absOp P e ⟨d, .unOp op xT x, t, p, af, none⟩ = (absUn op (e.ev x)).map (oneS ⟨d, .unOp op xT x, t, p, af, none⟩) :=
 rfl
theorem opsS_unOp {op : UnOp} {xT : TypeId} {x : Operand} : opsS P K Q all (⟨d, .unOp op xT x, t, p, af, none⟩ :: rest) st e = valS P K Q all rest st e d (absUn op (e.ev x)) :=
 ops_val rfl (by simp) abs_unOp
theorem drawS_unOp {op : UnOp} {xT : TypeId} {x : Operand} : drawS P K Q all (⟨d, .unOp op xT x, t, p, af, none⟩ :: rest) st tr e = valD P K Q all rest st (tr ++ [(rdO e ⟨d, .unOp op xT x, t, p, af, none⟩, [])]) e d (absUn op (e.ev x)) :=
 draw_val rfl (by simp) abs_unOp
theorem abs_convert {s u : TypeId} {x : Operand} : absOp P e ⟨d, .convert s u x, t, p, af, none⟩ = (e.conv P s u (e.ev x)).map (oneS ⟨d, .convert s u x, t, p, af, none⟩) :=
 rfl
theorem opsS_convert {s u : TypeId} {x : Operand} : opsS P K Q all (⟨d, .convert s u x, t, p, af, none⟩ :: rest) st e = valS P K Q all rest st e d (e.conv P s u (e.ev x)) :=
 ops_val rfl (by simp) abs_convert
theorem drawS_convert {s u : TypeId} {x : Operand} : drawS P K Q all (⟨d, .convert s u x, t, p, af, none⟩ :: rest) st tr e = valD P K Q all rest st (tr ++ [(rdO e ⟨d, .convert s u x, t, p, af, none⟩, [])]) e d (e.conv P s u (e.ev x)) :=
 draw_val rfl (by simp) abs_convert
theorem abs_nilCheck {x : Operand} : absOp P e ⟨d, .nilCheck x, t, p, af, none⟩ = (nilCheckV (e.cellsAt (e.ev x)) (e.ev x)).map (oneS ⟨d, .nilCheck x, t, p, af, none⟩) :=
 (by simp only [absOp, nilCheckV]; cases e.cellsAt (e.ev x) <;> rfl)
theorem opsS_nilCheck {x : Operand} : opsS P K Q all (⟨d, .nilCheck x, t, p, af, none⟩ :: rest) st e = valS P K Q all rest st e d (nilCheckV (e.cellsAt (e.ev x)) (e.ev x)) :=
 ops_val rfl (by simp) abs_nilCheck
theorem drawS_nilCheck {x : Operand} : drawS P K Q all (⟨d, .nilCheck x, t, p, af, none⟩ :: rest) st tr e = valD P K Q all rest st (tr ++ [(rdO e ⟨d, .nilCheck x, t, p, af, none⟩, [])]) e d (nilCheckV (e.cellsAt (e.ev x)) (e.ev x)) :=
 draw_val rfl (by simp) abs_nilCheck
theorem abs_fieldAddr {ty : TypeId} {x : Operand} {f : Nat} : absOp P e ⟨d, .fieldAddr ty x f, t, p, af, none⟩ = (fieldAddrV (fieldT P ty f) ((fieldT P ty f).bind fun q => sizeT P q.2) (e.cellsAt (e.ev x)) (e.ev x)).map (oneS ⟨d, .fieldAddr ty x f, t, p, af, none⟩) :=
 (by
   simp only [absOp, fieldAddrV]
   cases hf : fieldT P ty f with
   | none => rfl
   | some q =>
     cases hc : e.cellsAt (e.ev x) with
     | none => rfl
     | some cs =>
       simp only [Option.bind_some]
       cases hs : sizeT P q.2 with
       | none => rfl
       | some n => cases n <;> rfl)
theorem opsS_fieldAddr {ty : TypeId} {x : Operand} {f : Nat} : opsS P K Q all (⟨d, .fieldAddr ty x f, t, p, af, none⟩ :: rest) st e = valS P K Q all rest st e d (fieldAddrV (fieldT P ty f) ((fieldT P ty f).bind fun q => sizeT P q.2) (e.cellsAt (e.ev x)) (e.ev x)) :=
 ops_val rfl (by simp) abs_fieldAddr
theorem drawS_fieldAddr {ty : TypeId} {x : Operand} {f : Nat} : drawS P K Q all (⟨d, .fieldAddr ty x f, t, p, af, none⟩ :: rest) st tr e = valD P K Q all rest st (tr ++ [(rdO e ⟨d, .fieldAddr ty x f, t, p, af, none⟩, [])]) e d (fieldAddrV (fieldT P ty f) ((fieldT P ty f).bind fun q => sizeT P q.2) (e.cellsAt (e.ev x)) (e.ev x)) :=
 draw_val rfl (by simp) abs_fieldAddr
theorem abs_field {ty : TypeId} {x : Operand} {f : Nat} : absOp P e ⟨d, .field ty x f, t, p, af, none⟩ = (fieldV (fieldT P ty f) ((fieldT P ty f).bind fun q => aggT P q.2) ((fieldT P ty f).bind fun q => sizeT P q.2) (e.ev x)).map (oneS ⟨d, .field ty x f, t, p, af, none⟩) :=
 (by
   simp only [absOp, fieldV]
   cases hf : fieldT P ty f with
   | none => cases e.ev x <;> rfl
   | some q =>
     cases hx : e.ev x <;> try rfl
     simp only [Option.bind_some]
     cases ha : aggT P q.2 with
     | none => rfl
     | some b =>
       cases b with
       | true =>
         cases hs : sizeT P q.2 with
         | none => rfl
         | some n => simp only; split <;> rfl
       | false =>
         rename_i cs
         cases hq : cs[q.1]? <;> simp [hq])
theorem opsS_field {ty : TypeId} {x : Operand} {f : Nat} : opsS P K Q all (⟨d, .field ty x f, t, p, af, none⟩ :: rest) st e = valS P K Q all rest st e d (fieldV (fieldT P ty f) ((fieldT P ty f).bind fun q => aggT P q.2) ((fieldT P ty f).bind fun q => sizeT P q.2) (e.ev x)) :=
 ops_val rfl (by simp) abs_field
theorem drawS_field {ty : TypeId} {x : Operand} {f : Nat} : drawS P K Q all (⟨d, .field ty x f, t, p, af, none⟩ :: rest) st tr e = valD P K Q all rest st (tr ++ [(rdO e ⟨d, .field ty x f, t, p, af, none⟩, [])]) e d (fieldV (fieldT P ty f) ((fieldT P ty f).bind fun q => aggT P q.2) ((fieldT P ty f).bind fun q => sizeT P q.2) (e.ev x)) :=
 draw_val rfl (by simp) abs_field
theorem abs_indexAddr {ty : TypeId} {x i : Operand} : absOp P e ⟨d, .indexAddr ty x i, t, p, af, none⟩ = (indexAddrV P e ty (e.ev x) (e.ev i)).map (oneS ⟨d, .indexAddr ty x i, t, p, af, none⟩) :=
 (by simp only [absOp, indexAddrV]; cases e.ev i <;> rfl)
theorem opsS_indexAddr {ty : TypeId} {x i : Operand} : opsS P K Q all (⟨d, .indexAddr ty x i, t, p, af, none⟩ :: rest) st e = valS P K Q all rest st e d (indexAddrV P e ty (e.ev x) (e.ev i)) :=
 ops_val rfl (by simp) abs_indexAddr
theorem drawS_indexAddr {ty : TypeId} {x i : Operand} : drawS P K Q all (⟨d, .indexAddr ty x i, t, p, af, none⟩ :: rest) st tr e = valD P K Q all rest st (tr ++ [(rdO e ⟨d, .indexAddr ty x i, t, p, af, none⟩, [])]) e d (indexAddrV P e ty (e.ev x) (e.ev i)) :=
 draw_val rfl (by simp) abs_indexAddr
theorem abs_index {ty : TypeId} {x i : Operand} : absOp P e ⟨d, .index ty x i, t, p, af, none⟩ = (indexV (isStrT P ty) (e.ev x) (e.ev i)).map (oneS ⟨d, .index ty x i, t, p, af, none⟩) :=
 (by
   simp only [absOp, indexV]
   cases e.ev x <;> try rfl
   cases e.ev i <;> try rfl
   simp only
   split
   · split
     · split <;> rfl
     · rfl
   · rfl)
theorem opsS_index {ty : TypeId} {x i : Operand} : opsS P K Q all (⟨d, .index ty x i, t, p, af, none⟩ :: rest) st e = valS P K Q all rest st e d (indexV (isStrT P ty) (e.ev x) (e.ev i)) :=
 ops_val rfl (by simp) abs_index
theorem drawS_index {ty : TypeId} {x i : Operand} : drawS P K Q all (⟨d, .index ty x i, t, p, af, none⟩ :: rest) st tr e = valD P K Q all rest st (tr ++ [(rdO e ⟨d, .index ty x i, t, p, af, none⟩, [])]) e d (indexV (isStrT P ty) (e.ev x) (e.ev i)) :=
 draw_val rfl (by simp) abs_index
theorem abs_extract {x : Operand} {i : Nat} : absOp P e ⟨d, .extract x i, t, p, af, none⟩ = (extractV (e.ev x) i).map (oneS ⟨d, .extract x i, t, p, af, none⟩) :=
 (by
   simp only [absOp, extractV]
   cases e.ev x <;> try rfl
   rename_i vs
   cases hq : vs[i]? <;> simp [hq])
theorem opsS_extract {x : Operand} {i : Nat} : opsS P K Q all (⟨d, .extract x i, t, p, af, none⟩ :: rest) st e = valS P K Q all rest st e d (extractV (e.ev x) i) :=
 ops_val rfl (by simp) abs_extract
theorem drawS_extract {x : Operand} {i : Nat} : drawS P K Q all (⟨d, .extract x i, t, p, af, none⟩ :: rest) st tr e = valD P K Q all rest st (tr ++ [(rdO e ⟨d, .extract x i, t, p, af, none⟩, [])]) e d (extractV (e.ev x) i) :=
 draw_val rfl (by simp) abs_extract
theorem abs_build {ty : TypeId} {l : List (Nat × Operand)} : absOp P e ⟨d, .build ty l.toArray, t, p, af, none⟩ = (buildV (placesT P ty) (zeroT P ty) (l.map fun q => (q.1, e.ev q.2))).map (oneS ⟨d, .build ty l.toArray, t, p, af, none⟩) :=
 (by
   simp only [absOp, buildV]
   cases placesT P ty <;> try rfl
   cases zeroT P ty <;> try rfl
   simp only
   generalize layParts _ _ _ = L
   cases L <;> rfl)
theorem opsS_build {ty : TypeId} {l : List (Nat × Operand)} : opsS P K Q all (⟨d, .build ty l.toArray, t, p, af, none⟩ :: rest) st e = valS P K Q all rest st e d (buildV (placesT P ty) (zeroT P ty) (l.map fun q => (q.1, e.ev q.2))) :=
 ops_val rfl (by simp) abs_build
theorem drawS_build {ty : TypeId} {l : List (Nat × Operand)} : drawS P K Q all (⟨d, .build ty l.toArray, t, p, af, none⟩ :: rest) st tr e = valD P K Q all rest st (tr ++ [(rdO e ⟨d, .build ty l.toArray, t, p, af, none⟩, [])]) e d (buildV (placesT P ty) (zeroT P ty) (l.map fun q => (q.1, e.ev q.2))) :=
 draw_val rfl (by simp) abs_build
theorem abs_store {ty : TypeId} {x y : Operand} : absOp P e ⟨d, .store ty x y, t, p, af, none⟩ = ((e.store P ty (e.ev x) (e.ev y)).map fun ws => (.any, ws)).map (fun q => q.2 ++ oneS ⟨d, .store ty x y, t, p, af, none⟩ q.1) :=
 (by simp only [absOp]; cases e.store P ty (e.ev x) (e.ev y) <;> rfl)
theorem opsS_store {ty : TypeId} {x y : Operand} : opsS P K Q all (⟨d, .store ty x y, t, p, af, none⟩ :: rest) st e = awS P K Q all rest st e d ((e.store P ty (e.ev x) (e.ev y)).map fun ws => (.any, ws)) :=
 ops_aw rfl (by simp) abs_store
theorem drawS_store {ty : TypeId} {x y : Operand} : drawS P K Q all (⟨d, .store ty x y, t, p, af, none⟩ :: rest) st tr e = awD P K Q all rest st tr (rdO e ⟨d, .store ty x y, t, p, af, none⟩) e d ((e.store P ty (e.ev x) (e.ev y)).map fun ws => (.any, ws)) :=
 draw_aw rfl (by simp) abs_store
theorem abs_alloc {ty : TypeId} {u : Nat} : absOp P e ⟨some u, .alloc ty, t, p, af, none⟩ = (newV u (nextVer (e.go u)) ty (zeroT P ty)).map (fun q => q.2 ++ oneS ⟨some u, .alloc ty, t, p, af, none⟩ q.1) :=
 (by simp only [absOp, newV]; cases zeroT P ty <;> rfl)
theorem opsS_alloc {ty : TypeId} {u : Nat} : opsS P K Q all (⟨some u, .alloc ty, t, p, af, none⟩ :: rest) st e = awS P K Q all rest st e (some u) (newV u (nextVer (e.go u)) ty (zeroT P ty)) :=
 ops_aw rfl (by simp) abs_alloc
theorem drawS_alloc {ty : TypeId} {u : Nat} : drawS P K Q all (⟨some u, .alloc ty, t, p, af, none⟩ :: rest) st tr e = awD P K Q all rest st tr (rdO e ⟨some u, .alloc ty, t, p, af, none⟩) e (some u) (newV u (nextVer (e.go u)) ty (zeroT P ty)) :=
 draw_aw rfl (by simp) abs_alloc
theorem abs_box {ty : TypeId} {x : Operand} {u : Nat} : absOp P e ⟨some u, .box ty x, t, p, af, none⟩ = (boxV u (nextVer (e.go u)) ty (cellsOf (e.ev x))).map (fun q => q.2 ++ oneS ⟨some u, .box ty x, t, p, af, none⟩ q.1) :=
 (by
   simp only [absOp, boxV]
   cases cellsOf (e.ev x) with
   | none => rfl
   | some cs => simp only; split <;> rfl)
theorem opsS_box {ty : TypeId} {x : Operand} {u : Nat} : opsS P K Q all (⟨some u, .box ty x, t, p, af, none⟩ :: rest) st e = awS P K Q all rest st e (some u) (boxV u (nextVer (e.go u)) ty (cellsOf (e.ev x))) :=
 ops_aw rfl (by simp) abs_box
theorem drawS_box {ty : TypeId} {x : Operand} {u : Nat} : drawS P K Q all (⟨some u, .box ty x, t, p, af, none⟩ :: rest) st tr e = awD P K Q all rest st tr (rdO e ⟨some u, .box ty x, t, p, af, none⟩) e (some u) (boxV u (nextVer (e.go u)) ty (cellsOf (e.ev x))) :=
 draw_aw rfl (by simp) abs_box
theorem abs_slice {ty : TypeId} {x : Operand} {lo hi : Option Operand} : absOp P e ⟨d, .slice ty x lo hi none, t, p, af, none⟩ = (e.cut P ty (e.ev x) (lo.map e.ev) (hi.map e.ev)).map (fun q => q.2 ++ oneS ⟨d, .slice ty x lo hi none, t, p, af, none⟩ q.1) :=
 (by simp only [absOp]; cases e.cut P ty (e.ev x) (lo.map e.ev) (hi.map e.ev) <;> rfl)
theorem opsS_slice {ty : TypeId} {x : Operand} {lo hi : Option Operand} : opsS P K Q all (⟨d, .slice ty x lo hi none, t, p, af, none⟩ :: rest) st e = awS P K Q all rest st e d (e.cut P ty (e.ev x) (lo.map e.ev) (hi.map e.ev)) :=
 ops_aw rfl (by simp) abs_slice
theorem drawS_slice {ty : TypeId} {x : Operand} {lo hi : Option Operand} : drawS P K Q all (⟨d, .slice ty x lo hi none, t, p, af, none⟩ :: rest) st tr e = awD P K Q all rest st tr (rdO e ⟨d, .slice ty x lo hi none, t, p, af, none⟩) e d (e.cut P ty (e.ev x) (lo.map e.ev) (hi.map e.ev)) :=
 draw_aw rfl (by simp) abs_slice
theorem abs_makeFunc {f : FuncId} {l : List Operand} : absOp P e ⟨d, .makeFunc (.func f) #[] l.toArray, t, p, af, none⟩ = (fnV f (e.frzA (l.map e.ev))).map (fun q => q.2 ++ oneS ⟨d, .makeFunc (.func f) #[] l.toArray, t, p, af, none⟩ q.1) :=
 (by
   simp only [absOp, fnV, List.size_toArray, List.length_nil, if_true]
   cases e.frzA (l.map e.ev) with
   | none => rfl
   | some q => simp only; split <;> rfl)
theorem opsS_makeFunc {f : FuncId} {l : List Operand} : opsS P K Q all (⟨d, .makeFunc (.func f) #[] l.toArray, t, p, af, none⟩ :: rest) st e = awS P K Q all rest st e d (fnV f (e.frzA (l.map e.ev))) :=
 ops_aw rfl (by simp) abs_makeFunc
theorem drawS_makeFunc {f : FuncId} {l : List Operand} : drawS P K Q all (⟨d, .makeFunc (.func f) #[] l.toArray, t, p, af, none⟩ :: rest) st tr e = awD P K Q all rest st tr (rdO e ⟨d, .makeFunc (.func f) #[] l.toArray, t, p, af, none⟩) e d (fnV f (e.frzA (l.map e.ev))) :=
 draw_aw rfl (by simp) abs_makeFunc
theorem abs_buildSlice {ty : TypeId} {n u : Nat} {l : List (Nat × Operand)} : absOp P e ⟨some u, .buildSlice ty n l.toArray, t, p, af, none⟩ = (buildSliceV P u (nextVer (e.go u)) (elemT P ty) n (l.map (·.1)) (e.frzAs (l.map fun q => e.ev q.2))).map (fun q => q.2 ++ oneS ⟨some u, .buildSlice ty n l.toArray, t, p, af, none⟩ q.1) :=
 (by
   simp only [absOp, buildSliceV]
   cases elemT P ty with
   | none => rfl
   | some et =>
     simp only [litV]
     cases sizeT P et with
     | none => rfl
     | some esz =>
       cases zeroT P et with
       | none => rfl
       | some z =>
         simp only
         cases e.frzAs (l.map fun q => e.ev q.2) with
         | none => simp
         | some q =>
           simp only
           split
           · simp only [rowV]
             generalize layParts _ _ _ = L
             cases L with
             | none => rfl
             | some cs =>
               simp only
               split
               · simp [oneS]
               · rfl
           · rfl)
theorem opsS_buildSlice {ty : TypeId} {n u : Nat} {l : List (Nat × Operand)} : opsS P K Q all (⟨some u, .buildSlice ty n l.toArray, t, p, af, none⟩ :: rest) st e = awS P K Q all rest st e (some u) (buildSliceV P u (nextVer (e.go u)) (elemT P ty) n (l.map (·.1)) (e.frzAs (l.map fun q => e.ev q.2))) :=
 ops_aw rfl (by simp) abs_buildSlice
theorem drawS_buildSlice {ty : TypeId} {n u : Nat} {l : List (Nat × Operand)} : drawS P K Q all (⟨some u, .buildSlice ty n l.toArray, t, p, af, none⟩ :: rest) st tr e = awD P K Q all rest st tr (rdO e ⟨some u, .buildSlice ty n l.toArray, t, p, af, none⟩) e (some u) (buildSliceV P u (nextVer (e.go u)) (elemT P ty) n (l.map (·.1)) (e.frzAs (l.map fun q => e.ev q.2))) :=
 draw_aw rfl (by simp) abs_buildSlice
theorem abs_len {ty : TypeId} {x : Operand} : absOp P e ⟨d, .call ⟨.builtin .len, #[x], #[ty]⟩, t, p, af, none⟩ = (lenV P e ty (e.ev x)).map (oneS ⟨d, .call ⟨.builtin .len, #[x], #[ty]⟩, t, p, af, none⟩) :=
 (by
   simp only [absOp, lenV, List.map_cons, List.map_nil]
   cases hx : e.ev x with
   | str s => simp only; split <;> rfl
   | _ =>
     simp only
     cases elemT P ty with
     | none => rfl
     | some et => cases e.count _ <;> rfl)
theorem opsS_len {ty : TypeId} {x : Operand} : opsS P K Q all (⟨d, .call ⟨.builtin .len, #[x], #[ty]⟩, t, p, af, none⟩ :: rest) st e = valS P K Q all rest st e d (lenV P e ty (e.ev x)) :=
 ops_val rfl (by simp) abs_len
theorem drawS_len {ty : TypeId} {x : Operand} : drawS P K Q all (⟨d, .call ⟨.builtin .len, #[x], #[ty]⟩, t, p, af, none⟩ :: rest) st tr e = valD P K Q all rest st (tr ++ [(rdO e ⟨d, .call ⟨.builtin .len, #[x], #[ty]⟩, t, p, af, none⟩, [])]) e d (lenV P e ty (e.ev x)) :=
 draw_val rfl (by simp) abs_len
theorem abs_cap {ty : TypeId} {x : Operand} : absOp P e ⟨d, .call ⟨.builtin .cap, #[x], #[ty]⟩, t, p, af, none⟩ = (capV P ty (e.ev x)).map (oneS ⟨d, .call ⟨.builtin .cap, #[x], #[ty]⟩, t, p, af, none⟩) :=
 (by
   simp only [absOp, capV, List.map_cons, List.map_nil]
   cases elemT P ty with
   | none => rfl
   | some et => cases e.ev x <;> rfl)
theorem opsS_cap {ty : TypeId} {x : Operand} : opsS P K Q all (⟨d, .call ⟨.builtin .cap, #[x], #[ty]⟩, t, p, af, none⟩ :: rest) st e = valS P K Q all rest st e d (capV P ty (e.ev x)) :=
 ops_val rfl (by simp) abs_cap
theorem drawS_cap {ty : TypeId} {x : Operand} : drawS P K Q all (⟨d, .call ⟨.builtin .cap, #[x], #[ty]⟩, t, p, af, none⟩ :: rest) st tr e = valD P K Q all rest st (tr ++ [(rdO e ⟨d, .call ⟨.builtin .cap, #[x], #[ty]⟩, t, p, af, none⟩, [])]) e d (capV P ty (e.ev x)) :=
 draw_val rfl (by simp) abs_cap
theorem abs_copy {ty ty' : TypeId} {x y : Operand} : absOp P e ⟨d, .call ⟨.builtin .copy, #[x, y], #[ty, ty']⟩, t, p, af, none⟩ = (e.copy P ty (e.ev x) (e.ev y)).map (fun q => q.2 ++ oneS ⟨d, .call ⟨.builtin .copy, #[x, y], #[ty, ty']⟩, t, p, af, none⟩ q.1) :=
 (by
   simp only [absOp, List.map_cons, List.map_nil]
   cases e.copy P ty (e.ev x) (e.ev y) <;> rfl)
theorem opsS_copy {ty ty' : TypeId} {x y : Operand} : opsS P K Q all (⟨d, .call ⟨.builtin .copy, #[x, y], #[ty, ty']⟩, t, p, af, none⟩ :: rest) st e = awS P K Q all rest st e d (e.copy P ty (e.ev x) (e.ev y)) :=
 ops_aw rfl (by simp) abs_copy
theorem drawS_copy {ty ty' : TypeId} {x y : Operand} : drawS P K Q all (⟨d, .call ⟨.builtin .copy, #[x, y], #[ty, ty']⟩, t, p, af, none⟩ :: rest) st tr e = awD P K Q all rest st tr (rdO e ⟨d, .call ⟨.builtin .copy, #[x, y], #[ty, ty']⟩, t, p, af, none⟩) e d (e.copy P ty (e.ev x) (e.ev y)) :=
 draw_aw rfl (by simp) abs_copy
theorem abs_range {ty : TypeId} {x : Operand} {u : Nat} : absOp P e ⟨some u, .range ty x, t, p, af, none⟩ = (rangeV u (nextVer (e.go u)) (isStrT P ty) (e.ev x)).map (fun q => q.2 ++ oneS ⟨some u, .range ty x, t, p, af, none⟩ q.1) :=
 (by
   simp only [absOp, rangeV]
   cases e.ev x with
   | str s => simp only; split <;> rfl
   | _ => rfl)
theorem opsS_range {ty : TypeId} {x : Operand} {u : Nat} : opsS P K Q all (⟨some u, .range ty x, t, p, af, none⟩ :: rest) st e = awS P K Q all rest st e (some u) (rangeV u (nextVer (e.go u)) (isStrT P ty) (e.ev x)) :=
 ops_aw rfl (by simp) abs_range
theorem abs_next {x : Operand} : absOp P e ⟨d, .next x true, t, p, af, none⟩ = (e.iterNext (e.ev x)).map (fun q => q.2 ++ oneS ⟨d, .next x true, t, p, af, none⟩ q.1) :=
 (by
   simp only [absOp]
   cases e.iterNext (e.ev x) <;> rfl)
theorem opsS_next {x : Operand} : opsS P K Q all (⟨d, .next x true, t, p, af, none⟩ :: rest) st e = awS P K Q all rest st e d (e.iterNext (e.ev x)) :=
 ops_aw rfl (by simp) abs_next
theorem abs_makeSlice {ty : TypeId} {x y : Operand} {u : Nat} : absOp P e ⟨some u, .makeSlice ty x y, t, p, af, none⟩ = (e.make P u ty (e.ev x) (e.ev y)).map (fun q => q.2 ++ oneS ⟨some u, .makeSlice ty x y, t, p, af, none⟩ q.1) :=
 (by
   simp only [absOp]
   cases e.make P u ty (e.ev x) (e.ev y) <;> rfl)
theorem opsS_makeSlice {ty : TypeId} {x y : Operand} {u : Nat} : opsS P K Q all (⟨some u, .makeSlice ty x y, t, p, af, none⟩ :: rest) st e = awS P K Q all rest st e (some u) (e.make P u ty (e.ev x) (e.ev y)) :=
 ops_aw rfl (by simp) abs_makeSlice
theorem drawS_makeSlice {ty : TypeId} {x y : Operand} {u : Nat} : drawS P K Q all (⟨some u, .makeSlice ty x y, t, p, af, none⟩ :: rest) st tr e = awD P K Q all rest st tr (rdO e ⟨some u, .makeSlice ty x y, t, p, af, none⟩) e (some u) (e.make P u ty (e.ev x) (e.ev y)) :=
 draw_aw rfl (by simp) abs_makeSlice
theorem abs_append {ty : TypeId} {x y : Operand} {u : Nat} : absOp P e ⟨some u, .call ⟨.builtin .append, #[x, y], #[ty, ty]⟩, t, p, af, none⟩ = (e.append P u ty (e.ev x) (e.ev y)).map (fun q => q.2 ++ oneS ⟨some u, .call ⟨.builtin .append, #[x, y], #[ty, ty]⟩, t, p, af, none⟩ q.1) :=
 (by
   simp only [absOp, List.map_cons, List.map_nil, if_true]
   cases e.append P u ty (e.ev x) (e.ev y) <;> rfl)
theorem opsS_append {ty : TypeId} {x y : Operand} {u : Nat} : opsS P K Q all (⟨some u, .call ⟨.builtin .append, #[x, y], #[ty, ty]⟩, t, p, af, none⟩ :: rest) st e = awS P K Q all rest st e (some u) (e.append P u ty (e.ev x) (e.ev y)) :=
 ops_aw rfl (by simp) abs_append
theorem drawS_append {ty : TypeId} {x y : Operand} {u : Nat} : drawS P K Q all (⟨some u, .call ⟨.builtin .append, #[x, y], #[ty, ty]⟩, t, p, af, none⟩ :: rest) st tr e = awD P K Q all rest st tr (rdO e ⟨some u, .call ⟨.builtin .append, #[x, y], #[ty, ty]⟩, t, p, af, none⟩) e (some u) (e.append P u ty (e.ev x) (e.ev y)) :=
 draw_aw rfl (by simp) abs_append
theorem abs_appendZ {ty ty' : TypeId} {x y : Operand} {u : Nat} (hne : ¬ ty = ty') : absOp P e ⟨some u, .call ⟨.builtin .append, #[x, y], #[ty, ty']⟩, t, p, af, none⟩ = (e.appendZ P u ty ty' (e.ev x) (e.ev y)).map (fun q => q.2 ++ oneS ⟨some u, .call ⟨.builtin .append, #[x, y], #[ty, ty']⟩, t, p, af, none⟩ q.1) :=
 (by
   simp only [absOp, List.map_cons, List.map_nil, hne, if_false]
   cases e.appendZ P u ty ty' (e.ev x) (e.ev y) <;> rfl)
theorem opsS_appendZ {ty ty' : TypeId} {x y : Operand} {u : Nat} (hne : ¬ ty = ty') : opsS P K Q all (⟨some u, .call ⟨.builtin .append, #[x, y], #[ty, ty']⟩, t, p, af, none⟩ :: rest) st e = awS P K Q all rest st e (some u) (e.appendZ P u ty ty' (e.ev x) (e.ev y)) :=
 ops_aw rfl (by simp) (abs_appendZ hne)
theorem abs_clear {ty : TypeId} {x : Operand} : absOp P e ⟨d, .call ⟨.builtin .clear, #[x], #[ty]⟩, t, p, af, none⟩ = ((e.clear P ty (e.ev x)).map fun ws => (.any, ws)).map (fun q => q.2 ++ oneS ⟨d, .call ⟨.builtin .clear, #[x], #[ty]⟩, t, p, af, none⟩ q.1) :=
 (by
   simp only [absOp, List.map_cons, List.map_nil]
   cases e.clear P ty (e.ev x) <;> rfl)
theorem opsS_clear {ty : TypeId} {x : Operand} : opsS P K Q all (⟨d, .call ⟨.builtin .clear, #[x], #[ty]⟩, t, p, af, none⟩ :: rest) st e = awS P K Q all rest st e d ((e.clear P ty (e.ev x)).map fun ws => (.any, ws)) :=
 ops_aw rfl (by simp) abs_clear
theorem drawS_clear {ty : TypeId} {x : Operand} : drawS P K Q all (⟨d, .call ⟨.builtin .clear, #[x], #[ty]⟩, t, p, af, none⟩ :: rest) st tr e = awD P K Q all rest st tr (rdO e ⟨d, .call ⟨.builtin .clear, #[x], #[ty]⟩, t, p, af, none⟩) e d ((e.clear P ty (e.ev x)).map fun ws => (.any, ws)) :=
 draw_aw rfl (by simp) abs_clear
theorem abs_slice3 {ty : TypeId} {x m : Operand} {lo hi : Option Operand} : absOp P e ⟨d, .slice ty x lo hi (some m), t, p, af, none⟩ = (e.cut3 P ty (e.ev x) (lo.map e.ev) (hi.map e.ev) (e.ev m)).map (oneS ⟨d, .slice ty x lo hi (some m), t, p, af, none⟩) :=
 rfl
theorem opsS_slice3 {ty : TypeId} {x m : Operand} {lo hi : Option Operand} : opsS P K Q all (⟨d, .slice ty x lo hi (some m), t, p, af, none⟩ :: rest) st e = valS P K Q all rest st e d (e.cut3 P ty (e.ev x) (lo.map e.ev) (hi.map e.ev) (e.ev m)) :=
 ops_val rfl (by simp) abs_slice3
theorem drawS_slice3 {ty : TypeId} {x m : Operand} {lo hi : Option Operand} : drawS P K Q all (⟨d, .slice ty x lo hi (some m), t, p, af, none⟩ :: rest) st tr e = valD P K Q all rest st (tr ++ [(rdO e ⟨d, .slice ty x lo hi (some m), t, p, af, none⟩, [])]) e d (e.cut3 P ty (e.ev x) (lo.map e.ev) (hi.map e.ev) (e.ev m)) :=
 draw_val rfl (by simp) abs_slice3
theorem abs_max {ats : Array TypeId} {x y : Operand} : absOp P e ⟨d, .call ⟨.builtin .max, #[x, y], ats⟩, t, p, af, none⟩ = (maxV (e.ev x) (e.ev y)).map (oneS ⟨d, .call ⟨.builtin .max, #[x, y], ats⟩, t, p, af, none⟩) :=
 (by
   simp only [absOp, maxV, List.map_cons, List.map_nil]
   cases e.ev x <;> try rfl
   cases e.ev y <;> try rfl
   simp only
   split <;> rfl)
theorem opsS_max {ats : Array TypeId} {x y : Operand} : opsS P K Q all (⟨d, .call ⟨.builtin .max, #[x, y], ats⟩, t, p, af, none⟩ :: rest) st e = valS P K Q all rest st e d (maxV (e.ev x) (e.ev y)) :=
 ops_val rfl (by simp) abs_max
theorem drawS_max {ats : Array TypeId} {x y : Operand} : drawS P K Q all (⟨d, .call ⟨.builtin .max, #[x, y], ats⟩, t, p, af, none⟩ :: rest) st tr e = valD P K Q all rest st (tr ++ [(rdO e ⟨d, .call ⟨.builtin .max, #[x, y], ats⟩, t, p, af, none⟩, [])]) e d (maxV (e.ev x) (e.ev y)) :=
 draw_val rfl (by simp) abs_max
theorem abs_min {ats : Array TypeId} {x y : Operand} : absOp P e ⟨d, .call ⟨.builtin .min, #[x, y], ats⟩, t, p, af, none⟩ = (minV (e.ev x) (e.ev y)).map (oneS ⟨d, .call ⟨.builtin .min, #[x, y], ats⟩, t, p, af, none⟩) :=
 (by
   simp only [absOp, minV, List.map_cons, List.map_nil]
   cases e.ev x <;> try rfl
   cases e.ev y <;> try rfl
   simp only
   split <;> rfl)
theorem opsS_min {ats : Array TypeId} {x y : Operand} : opsS P K Q all (⟨d, .call ⟨.builtin .min, #[x, y], ats⟩, t, p, af, none⟩ :: rest) st e = valS P K Q all rest st e d (minV (e.ev x) (e.ev y)) :=
 ops_val rfl (by simp) abs_min
theorem drawS_min {ats : Array TypeId} {x y : Operand} : drawS P K Q all (⟨d, .call ⟨.builtin .min, #[x, y], ats⟩, t, p, af, none⟩ :: rest) st tr e = valD P K Q all rest st (tr ++ [(rdO e ⟨d, .call ⟨.builtin .min, #[x, y], ats⟩, t, p, af, none⟩, [])]) e d (minV (e.ev x) (e.ev y)) :=
 draw_val rfl (by simp) abs_min
theorem opsS_call {f : Operand} {l : List Operand} {ats : Array TypeId} : opsS P K Q all (⟨d, .call ⟨.value f, l.toArray, ats⟩, t, p, af, none⟩ :: rest) st e = callF P K Q all rest st e d (e.ev f) (e.frzA (l.map e.ev)) (l.map e.ev) := by
 have hj : joinOf K ⟨d, .call ⟨.value f, l.toArray, ats⟩, t, p, af, none⟩ = none := rfl
 simp only [opsS, awpOps, awpOpX, mcallG, mcall, awpOp, awpCore, awpCore0, mcallD, callF, hj]
 cases hf : e.ev f with
 | fn g caps =>
   apply propext
   unfold callS
   cases hq : e.frzA (l.map e.ev) with
   | none =>
     simp only [Option.map_none]
     cases caps with
     | nil => simp [opsS, Env.puts_append, puts_oneS]
     | cons c caps => simp
   | some q =>
     obtain ⟨as, ws⟩ := q
     simp only [Option.map_some, ex_some]
     cases caps with
     | nil => simp [opsS, Env.puts_append, puts_oneS]
     | cons c caps => simp [opsS, Env.puts_append, puts_oneS]
 | _ => simp
theorem valS_some {a : AV} : valS P K Q all rest st e d (some a) = opsS P K Q all rest st (e.putD d a) := nr rfl
theorem valS_none : valS P K Q all rest st e d none = False := nr rfl
theorem valS_ite {c : Prop} [Decidable c] {x y : Option AV} : valS P K Q all rest st e d (if c then x else y) = ifP c (valS P K Q all rest st e d x) (valS P K Q all rest st e d y) .mk .mk := by rw [ifP_eq]; split <;> rfl
theorem awS_some {a : AV} {ws : Ws} : awS P K Q all rest st e d (some (a, ws)) = opsS P K Q all rest st ((e.puts ws).putD d a) := nr rfl
theorem awS_none : awS P K Q all rest st e d none = False := nr rfl
theorem awS_ite {c : Prop} [Decidable c] {x y : Option (AV × Ws)} : awS P K Q all rest st e d (if c then x else y) = ifP c (awS P K Q all rest st e d x) (awS P K Q all rest st e d y) .mk .mk := by rw [ifP_eq]; split <;> rfl
theorem guardS_bool {o : Oper} {want b : Bool} : guardS P K Q all rest st e o want (.bool b) = ifP (b = want) (opsS P K Q all (o :: rest) st e) (opsS P K Q all rest st (e.putD o.dst (.tup []))) .mk .mk := (ifP_eq _ _ _ _ _).symm
theorem guardS_tup {o : Oper} {want : Bool} {cs : List AV} : guardS P K Q all rest st e o want (.tup cs) = opsS P K Q all rest st (e.putD o.dst (.tup [])) := nr rfl
theorem callF_fn {g : FuncId} {caps raw : List AV} {as : Option (List AV × Ws)} : callF P K Q all rest st e d (.fn g caps) as raw = callS P K Q all rest st e d g (as.map fun q => (q.1 ++ caps, q.2)) caps raw := nr rfl
theorem call_of {g : FuncId} {args caps raw : List AV} {ws : Ws} {r : AV} (hg : goes P g = true ∧ Good P g args r) (h : opsS P K Q all rest st ((e.puts (if r.flat then [] else ws)).putD d r)) : callS P K Q all rest st e d g (some (args, ws)) caps raw :=
 .inl (.inl ⟨args, ws, rfl, r, hg, h⟩)
theorem callM_of (us tg : List Nat) {g : FuncId} {N : Nat} {os args raw : List AV} {r : AV} {out : List (Nat × AV)} {fr : Option (List AV × Ws)} (hg : goes P g = true ∧ GoodM P g N os args r out) (hf : (MC.mk N us os args r out tg).Fits e raw)
 (h : opsS P K Q all rest st ((e.puts (MC.ws ⟨N, us, os, args, r, out, tg⟩ e)).putD d (MC.res ⟨N, us, os, args, r, out, tg⟩ e))) : callS P K Q all rest st e d g fr [] raw :=
 .inr ⟨rfl, ⟨N, us, os, args, r, out, tg⟩, hg, .inl hf, h⟩
end
end Go.Proofs.YtbhgehhmjpipiaaGreatDoor.Ab
