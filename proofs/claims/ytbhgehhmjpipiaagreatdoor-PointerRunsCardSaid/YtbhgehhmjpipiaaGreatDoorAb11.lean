/- What an operation looks at, and what it turns: for regions whose order the model draws. -/
import Derived.Test.YtbhgehhmjpipiaaGreatDoorAb10
set_option linter.unusedSectionVars false
set_option linter.unusedSimpArgs false
set_option linter.unusedVariables false
namespace Go.Proofs.YtbhgehhmjpipiaaGreatDoor.Ab
open Go Go.RowKit
variable [Inhabited DW]
def opTmps (o : Oper) : List Nat := o.op.operands.toList.filterMap fun | .tmp t => some t | _ => none
def rdS (all : List Oper) (o : Oper) : List Nat := opTmps o ++ (match o.guard with
 | some (j, _) => (dstOf all j).toList
 | none => [])
def rdC (e : Env) (o : Oper) : List Nat := match o.op with
 | .call { callee := .value _, args, .. } => args.toList.flatMap fun x => (ment (e.ev x)).flatMap (deep1 e)
 | _ => []
def rdO (e : Env) (o : Oper) : List Nat := (o.op.operands.toList.flatMap fun x => ment (e.ev x)) ++ (rdC e o ++ o.dst.toList)
section
variable {P : Program} {e e' : Env}
theorem cellsAt_loc {x : AV} (h : ∀ t ∈ ment x, e.go t = e'.go t) : e.cellsAt x = e'.cellsAt x := by
 cases x <;> simp [Env.cellsAt, ment, ment1] at h ⊢
 rw [h]
theorem load_loc {ty : TypeId} {x : AV} (h : ∀ t ∈ ment x, e.go t = e'.go t) : e.load P ty x = e'.load P ty x := by
 unfold Env.load; rw [cellsAt_loc h]
theorem store_loc {ty : TypeId} {x y : AV} (h : ∀ t ∈ ment x, e.go t = e'.go t) : e.store P ty x y = e'.store P ty x y := by
 cases x <;> simp only [Env.store]
 rw [h _ (by simp [ment, ment1])]
theorem frz1_loc1 {x : AV} (h : ∀ t ∈ ment1 x, e.go t = e'.go t) : e.frz1 x = e'.frz1 x := by
 cases x <;> simp only [Env.frz1]
 all_goals rw [h _ (by simp [ment1])]
theorem frz1_loc {x : AV} (h : ∀ t ∈ ment x, e.go t = e'.go t) : e.frz1 x = e'.frz1 x := by
 cases x with
 | agg cs => rfl
 | _ => exact frz1_loc1 h
theorem frzL_loc : ∀ {cs : List AV}, (∀ t ∈ cs.flatMap ment1, e.go t = e'.go t) → e.frzL cs = e'.frzL cs
 | [], _ => rfl
 | c :: cs, h => by
   simp only [Env.frzL]
   rw [frz1_loc1 (fun t ht => h t (by simp [ht])), frzL_loc (fun t ht => h t (by rw [List.flatMap_cons, List.mem_append]; exact .inr ht))]
theorem frz_loc {x : AV} (h : ∀ t ∈ ment x, e.go t = e'.go t) : e.frz x = e'.frz x := by
 cases x with
 | agg cs => simp only [Env.frz]; rw [frzL_loc h]
 | _ => exact frz1_loc h
theorem frzA_loc : ∀ {cs : List AV}, (∀ c ∈ cs, ∀ t ∈ ment c, e.go t = e'.go t) → e.frzA cs = e'.frzA cs
 | [], _ => rfl
 | c :: cs, h => by
   simp only [Env.frzA]
   rw [frz_loc (h c (by simp)), frzA_loc (fun c' hc => h c' (by simp [hc]))]
theorem frz1s_loc1 {x : AV} (h : ∀ t ∈ ment1 x, e.go t = e'.go t) : e.frz1s x = e'.frz1s x := by
 unfold Env.frz1s; rw [frz1_loc1 h]
theorem frzLs_loc : ∀ {cs : List AV}, (∀ t ∈ cs.flatMap ment1, e.go t = e'.go t) → e.frzLs cs = e'.frzLs cs
 | [], _ => rfl
 | c :: cs, h => by
   simp only [Env.frzLs]
   rw [frz1s_loc1 (fun t ht => h t (by simp [ht])), frzLs_loc (fun t ht => h t (by rw [List.flatMap_cons, List.mem_append]; exact .inr ht))]
theorem frz1s_loc {x : AV} (h : ∀ t ∈ ment x, e.go t = e'.go t) : e.frz1s x = e'.frz1s x := by
 unfold Env.frz1s; rw [frz1_loc h]
theorem frzs_loc {x : AV} (h : ∀ t ∈ ment x, e.go t = e'.go t) : e.frzs x = e'.frzs x := by
 cases x with
 | agg cs => simp only [Env.frzs]; rw [frzLs_loc h]
 | _ => exact frz1s_loc h
theorem frzAs_loc : ∀ {cs : List AV}, (∀ c ∈ cs, ∀ t ∈ ment c, e.go t = e'.go t) → e.frzAs cs = e'.frzAs cs
 | [], _ => rfl
 | c :: cs, h => by
   simp only [Env.frzAs]
   rw [frzs_loc (h c (by simp)), frzAs_loc (fun c' hc => h c' (by simp [hc]))]
theorem rows_loc {x : AV} (h : ∀ t ∈ ment x, e.go t = e'.go t) : e.rows x = e'.rows x := by
 cases x <;> simp only [Env.rows]
 all_goals rw [h _ (by simp [ment, ment1])]
theorem count_loc {x : AV} (h : ∀ t ∈ ment x, e.go t = e'.go t) : e.count x = e'.count x := by
 have hr := rows_loc h
 cases x <;> simp only [Env.count, hr]
 rw [h _ (by simp [ment, ment1])]
theorem clear_loc {ty : TypeId} {x : AV} (h : ∀ t ∈ ment x, e.go t = e'.go t) : e.clear P ty x = e'.clear P ty x := by
 unfold Env.clear
 cases elemT P ty with
 | none => rfl
 | some et =>
   simp only
   cases sizeT P et with
   | none => rfl
   | some esz =>
     cases zeroT P et with
     | none => rfl
     | some z =>
       cases x with
       | win t v k n => simp only [h t (by simp [ment, ment1])]
       | _ => rfl
theorem index_loc {ty : TypeId} {x : AV} {n : Int} (h : ∀ t ∈ ment x, e.go t = e'.go t) : e.index P ty x n = e'.index P ty x n := by
 unfold Env.index
 cases x with
 | ref t v => simp only [h t (by simp [ment, ment1])]
 | win t v k n => simp only [h t (by simp [ment, ment1])]
 | _ => rfl
theorem cut_loc {ty : TypeId} {x : AV} {lo hi : Option AV} (h : ∀ t ∈ ment x, e.go t = e'.go t) : e.cut P ty x lo hi = e'.cut P ty x lo hi := by
 have hf := frz1_loc h
 cases x with
 | ref t v => simp only [Env.cut, Env.cutW, h t (by simp [ment, ment1])]
 | win t v k n => simp only [Env.cut, Env.cutW, h t (by simp [ment, ment1])]
 | _ => simp only [Env.cut, hf]
theorem cut3_loc {ty : TypeId} {x m : AV} {lo hi : Option AV} (h : ∀ t ∈ ment x, e.go t = e'.go t) : e.cut3 P ty x lo hi m = e'.cut3 P ty x lo hi m := by
 unfold Env.cut3
 rw [rows_loc h]
theorem append_loc {d : Nat} {t : TypeId} {x y : AV} (h : ∀ t ∈ ment x, e.go t = e'.go t) (h2 : ∀ t ∈ ment y, e.go t = e'.go t) (hd : e.go d = e'.go d) : e.append P d t x y = e'.append P d t x y := by
 unfold Env.append
 rw [rows_loc h2, hd]
 cases x with
 | ref t v => simp only [h t (by simp [ment, ment1])]
 | win t v k n => simp only [h t (by simp [ment, ment1])]
 | _ => rfl
theorem make_loc {d : Nat} {t : TypeId} {x y : AV} (hd : e.go d = e'.go d) : e.make P d t x y = e'.make P d t x y := by
 unfold Env.make
 rw [hd]
theorem appendZ_loc {d : Nat} {t t' : TypeId} {x y : AV} (hd : e.go d = e'.go d) : e.appendZ P d t t' x y = e'.appendZ P d t t' x y := by
 unfold Env.appendZ
 rw [hd]
theorem appendZ_objs {d : Nat} {t t' : TypeId} {x y r : AV} {ws : Ws} (h : e.appendZ P d t t' x y = some (r, ws)) : ∀ c ∈ ws, ∃ t, c.1 = .o t := by
 unfold Env.appendZ at h
 repeat' split at h
 all_goals first | (cases h; intro c hc; simp at hc; exact ⟨_, by rw [hc]⟩) | cases h
theorem iterNext_loc {x : AV} (h : ∀ t ∈ ment x, e.go t = e'.go t) : e.iterNext x = e'.iterNext x := by
 cases x with
 | loc t v i o =>
   cases i with
   | zero => cases o with
     | zero => simp only [Env.iterNext, h t (by simp [ment, ment1])]
     | succ o => rfl
   | succ i => rfl
 | _ => rfl
theorem iterNext_objs {x r : AV} {ws : Ws} (h : e.iterNext x = some (r, ws)) : ∀ c ∈ ws, ∃ t, c.1 = .o t := by
 unfold Env.iterNext at h
 repeat' split at h
 all_goals first | (cases h; intro c hc; simp at hc; exact ⟨_, by rw [hc]⟩) | (cases h; intro c hc; cases hc) | cases h
theorem copy_loc {t : TypeId} {x y : AV} (h : ∀ t ∈ ment x, e.go t = e'.go t) (h2 : ∀ t ∈ ment y, e.go t = e'.go t) : e.copy P t x y = e'.copy P t x y := by
 unfold Env.copy
 rw [rows_loc h2]
 cases x with
 | ref t v => simp only [Env.copyW, h t (by simp [ment, ment1])]
 | win t v k n => simp only [Env.copyW, h t (by simp [ment, ment1])]
 | _ => rfl
theorem make_objs {d : Nat} {t : TypeId} {x y r : AV} {ws : Ws} (h : e.make P d t x y = some (r, ws)) : ∀ c ∈ ws, ∃ t, c.1 = .o t := by
 unfold Env.make at h
 repeat' split at h
 all_goals first | (cases h; intro c hc; simp at hc; exact ⟨_, by rw [hc]⟩) | cases h
theorem copy_objs {t : TypeId} {x y r : AV} {ws : Ws} (h : e.copy P t x y = some (r, ws)) : ∀ c ∈ ws, ∃ t, c.1 = .o t := by
 unfold Env.copy Env.copyW at h
 repeat' split at h
 all_goals first | (cases h; intro c hc; simp at hc; exact ⟨_, by rw [hc]⟩) | cases h
theorem absOp_loc {o : Oper} (hev : ∀ x ∈ o.op.operands.toList, e.ev x = e'.ev x) (hgo : ∀ x ∈ o.op.operands.toList, ∀ t ∈ ment (e.ev x), e.go t = e'.go t) (hd : ∀ d, o.dst = some d → e.go d = e'.go d) :
 absOp P e o = absOp P e' o := by
 obtain ⟨dst, op, type, pos, after, guard⟩ := o
 simp only at hev hgo hd
 have opt : ∀ (l : Option Operand), (∀ x ∈ l.toArray, x ∈ op.operands) → l.map e.ev = l.map e'.ev := fun l hl => by
  cases l with
  | none => rfl
  | some x => simp only [Option.map_some]; rw [hev x (by simpa using hl x (by simp))]
 cases op with
 | move x => simp only [absOp]; rw [hev x (by simp [Op.operands])]
 | assign x => simp only [absOp]; rw [hev x (by simp [Op.operands])]
 | pick c x y => simp only [absOp]; rw [hev c (by simp [Op.operands]), hev x (by simp [Op.operands]), hev y (by simp [Op.operands])]
 | alloc ty =>
   simp only [absOp]
   cases dst with
   | none => rfl
   | some d => cases zeroT P ty <;> simp only [hd d rfl]
 | box ty x =>
   simp only [absOp]; rw [hev x (by simp [Op.operands])]
   cases dst with
   | none => rfl
   | some d => cases cellsOf (e'.ev x) <;> simp only [hd d rfl]
 | load ty x => simp only [absOp]; rw [load_loc (hgo x (by simp [Op.operands])), hev x (by simp [Op.operands])]
 | store ty x y => simp only [absOp]; rw [store_loc (hgo x (by simp [Op.operands])), hev x (by simp [Op.operands]), hev y (by simp [Op.operands])]
 | nilCheck x => simp only [absOp]; rw [cellsAt_loc (hgo x (by simp [Op.operands])), hev x (by simp [Op.operands])]
 | binOp op xT x y yT => simp only [absOp]; rw [hev x (by simp [Op.operands]), hev y (by simp [Op.operands])]
 | unOp op t x => simp only [absOp]; rw [hev x (by simp [Op.operands])]
 | convert s d x => simp only [absOp]; unfold Env.conv; rw [rows_loc (hgo x (by simp [Op.operands])), hev x (by simp [Op.operands])]
 | fieldAddr ty x f => simp only [absOp]; rw [cellsAt_loc (hgo x (by simp [Op.operands])), hev x (by simp [Op.operands])]
 | field ty x f => simp only [absOp]; rw [hev x (by simp [Op.operands])]
 | indexAddr ty x i =>
   simp only [absOp]
   rw [hev i (by simp [Op.operands])]
   cases e'.ev i <;> simp only
   rw [index_loc (hgo x (by simp [Op.operands])), hev x (by simp [Op.operands])]
 | index ty x i => simp only [absOp]; rw [hev x (by simp [Op.operands]), hev i (by simp [Op.operands])]
 | slice ty x lo hi mx =>
   cases mx with
   | some m =>
     simp only [absOp]
     rw [cut3_loc (hgo x (by simp [Op.operands])), hev x (by simp [Op.operands]), hev m (by simp [Op.operands]), opt lo (fun y hy => by simp [Op.operands] at hy ⊢; simp [hy]), opt hi (fun y hy => by simp [Op.operands] at hy ⊢; simp [hy])]
   | none =>
     simp only [absOp]
     rw [cut_loc (hgo x (by simp [Op.operands])), hev x (by simp [Op.operands]), opt lo (fun y hy => by simp [Op.operands] at hy ⊢; simp [hy]), opt hi (fun y hy => by simp [Op.operands] at hy ⊢; simp [hy])]
 | range xT x =>
   simp only [absOp]; rw [hev x (by simp [Op.operands])]
   cases dst with
   | none => rfl
   | some d => cases e'.ev x <;> simp only [hd d rfl]
 | next x b =>
   cases b with
   | false => rfl
   | true => simp only [absOp]; rw [iterNext_loc (hgo x (by simp [Op.operands])), hev x (by simp [Op.operands])]
 | makeSlice ty l c =>
   simp only [absOp]
   cases dst with
   | none => rfl
   | some d => simp only; rw [make_loc (hd d rfl), hev l (by simp [Op.operands]), hev c (by simp [Op.operands])]
 | extract x i => simp only [absOp]; rw [hev x (by simp [Op.operands])]
 | makeFunc fn first caps =>
   cases fn with
   | func f =>
     simp only [absOp]
     have h1 : caps.toList.map e.ev = caps.toList.map e'.ev := List.map_congr_left fun x hx => hev x (by simp [Op.operands] at hx ⊢; simp [hx])
     have h2 : e.frzA (caps.toList.map e.ev) = e'.frzA (caps.toList.map e.ev) := frzA_loc fun c hc t ht => by
      obtain ⟨x, hx, rfl⟩ := List.mem_map.1 hc
      exact hgo x (by simp [Op.operands] at hx ⊢; simp [hx]) t ht
     rw [h2, h1]
   | _ => rfl
 | build ty parts =>
   simp only [absOp]
   have h1 : (parts.toList.map fun p => (p.1, e.ev p.2)) = parts.toList.map fun p => (p.1, e'.ev p.2) := List.map_congr_left fun x hx => by
    rw [hev x.2 (by simp [Op.operands]; exact ⟨x.1, by simpa using hx⟩)]
   rw [h1]
 | buildSlice ty n parts =>
   simp only [absOp]
   have h1 : (parts.toList.map fun p => e.ev p.2) = parts.toList.map fun p => e'.ev p.2 := List.map_congr_left fun x hx => by
    rw [hev x.2 (by simp [Op.operands]; exact ⟨x.1, by simpa using hx⟩)]
   have h2 : e.frzAs (parts.toList.map fun p => e.ev p.2) = e'.frzAs (parts.toList.map fun p => e.ev p.2) := frzAs_loc fun c hc t ht => by
    obtain ⟨x, hx, rfl⟩ := List.mem_map.1 hc
    exact hgo x.2 (by simp [Op.operands]; exact ⟨x.1, by simpa using hx⟩) t ht
   rw [h2, h1]
   cases dst with
   | none => rfl
   | some d => cases elemT P ty <;> simp only [hd d rfl]
 | call c =>
   obtain ⟨callee, args, ats⟩ := c
   cases callee with
   | builtin b =>
     have h1 : args.toList.map e.ev = args.toList.map e'.ev := List.map_congr_left fun x hx => hev x (by simp [Op.operands, Call.operands] at hx ⊢; simp [hx])
     have h3 : ∀ c ∈ args.toList.map e.ev, ∀ t ∈ ment c, e.go t = e'.go t := fun c hc t ht => by
      obtain ⟨x, hx, rfl⟩ := List.mem_map.1 hc
      exact hgo x (by simp [Op.operands, Call.operands] at hx ⊢; simp [hx]) t ht
     simp only [absOp]
     rw [← h1]
     generalize args.toList.map e.ev = A at h3
     generalize ats.toList = T
     cases b with
     | len =>
       rcases A with _ | ⟨x, _ | ⟨y, A⟩⟩ <;> try rfl
       rcases T with _ | ⟨t, _ | ⟨t', T⟩⟩ <;> try rfl
       have hx := count_loc (h3 x (by simp))
       cases x <;> simp only [hx]
     | clear =>
       rcases A with _ | ⟨x, _ | ⟨y, A⟩⟩ <;> try rfl
       rcases T with _ | ⟨t, _ | ⟨t', T⟩⟩ <;> try rfl
       simp only [clear_loc (h3 x (by simp))]
     | cap =>
       rcases A with _ | ⟨x, _ | ⟨y, A⟩⟩ <;> try rfl
       rcases T with _ | ⟨t, _ | ⟨t', T⟩⟩ <;> try rfl
     | copy =>
       rcases A with _ | ⟨x, _ | ⟨y, _ | ⟨z, A⟩⟩⟩ <;> try rfl
       rcases T with _ | ⟨t, _ | ⟨t', _ | ⟨t'', T⟩⟩⟩ <;> try rfl
       simp only [copy_loc (h3 x (by simp)) (h3 y (by simp))]
     | append =>
       rcases A with _ | ⟨x, _ | ⟨y, _ | ⟨z, A⟩⟩⟩ <;> try rfl
       rcases T with _ | ⟨t, _ | ⟨t', _ | ⟨t'', T⟩⟩⟩ <;> try rfl
       simp only
       split
       · cases dst with
         | none => rfl
         | some d => simp only; rw [append_loc (h3 x (by simp)) (h3 y (by simp)) (hd d rfl)]
       · cases dst with
         | none => rfl
         | some d => simp only; rw [appendZ_loc (hd d rfl)]
     | max =>
       rcases A with _ | ⟨x, _ | ⟨y, _ | ⟨z, A⟩⟩⟩ <;> (try rfl) <;> cases x <;> (try rfl) <;> cases y <;> rfl
     | min =>
       rcases A with _ | ⟨x, _ | ⟨y, _ | ⟨z, A⟩⟩⟩ <;> (try rfl) <;> cases x <;> (try rfl) <;> cases y <;> rfl
     | _ => rfl
   | _ => rfl
 | _ => rfl
theorem awpCore0_loc {o : Oper} {K : Ws → Prop} (hev : ∀ x ∈ o.op.operands.toList, e.ev x = e'.ev x) (hgo : ∀ x ∈ o.op.operands.toList, ∀ t ∈ ment (e.ev x), e.go t = e'.go t) (hd : ∀ d, o.dst = some d → e.go d = e'.go d)
 (h : awpCore0 P e o K) : awpCore0 P e' o K := by
 unfold awpCore0 at h ⊢
 split at h
 · rename_i f args ats ho
   rw [ho] at hev hgo
   have hf : e.ev f = e'.ev f := hev f (by simp [Op.operands, Call.operands])
   have h1 : args.toList.map e.ev = args.toList.map e'.ev := List.map_congr_left fun x hx => hev x (by simp [Op.operands, Call.operands] at hx ⊢; simp [hx])
   have h2 : e.frzA (args.toList.map e.ev) = e'.frzA (args.toList.map e.ev) := frzA_loc fun c hc t ht => by
    obtain ⟨x, hx, rfl⟩ := List.mem_map.1 hc
    exact hgo x (by simp [Op.operands, Call.operands] at hx ⊢; simp [hx]) t ht
   rw [← hf, ← h1, ← h2]
   exact h
 · rw [← absOp_loc hev hgo hd]; exact h
theorem awpCore_loc {o : Oper} {K : Ws → Prop} (hev : ∀ x ∈ o.op.operands.toList, e.ev x = e'.ev x) (hgo : ∀ x ∈ o.op.operands.toList, ∀ t ∈ ment (e.ev x), e.go t = e'.go t) (hd : ∀ d, o.dst = some d → e.go d = e'.go d)
 (hdp : ∀ u ∈ rdC e o, e.go u = e'.go u)
 (h : awpCore P e o K) : awpCore P e' o K := by
 rcases h with h | h
 · exact .inl (awpCore0_loc hev hgo hd h)
 · refine .inr ?_
   unfold mcallD at h ⊢
   split at h
   · rename_i f args ats ho
     rw [ho] at hev hgo
     have hf : e.ev f = e'.ev f := hev f (by simp [Op.operands, Call.operands])
     have h1 : args.toList.map e.ev = args.toList.map e'.ev := List.map_congr_left fun x hx => hev x (by simp [Op.operands, Call.operands] at hx ⊢; simp [hx])
     rw [← hf, ← h1]
     split at h
     · obtain ⟨d, hg, hfit, hK⟩ := h
       have hgo2 : ∀ a ∈ args.toList.map e.ev, ∀ t ∈ ment a, e.go t = e'.go t := fun a ha t ht => by
        obtain ⟨x, hx, rfl⟩ := List.mem_map.1 ha
        exact hgo x (by simp [Op.operands, Call.operands] at hx ⊢; simp [hx]) t ht
       rcases hfit with hfit | hfit
       · obtain ⟨q1, q2, q3⟩ := hfit.loc (e' := e') hgo2 hd
         exact ⟨d, hg, .inl q1, by rw [q2, q3]; exact hK⟩
       · obtain ⟨q1, q2, q3⟩ := hfit.loc (e' := e') hgo2 (fun a ha t ht u hu => by
          obtain ⟨x, hx, rfl⟩ := List.mem_map.1 ha
          refine hdp u ?_
          unfold rdC
          rw [ho]
          exact List.mem_flatMap.2 ⟨x, hx, List.mem_flatMap.2 ⟨t, ht, hu⟩⟩) hd
         exact ⟨d, hg, .inr q1, by rw [q2, q3]; exact hK⟩
     · exact h
   · exact h.elim
theorem awpOp_loc {all : List Oper} {o : Oper} {K : Ws → Prop} (hs : ∀ t ∈ rdS all o, e.gs t = e'.gs t) (ho : ∀ t ∈ rdO e o, e.go t = e'.go t) (h : awpOp P all e o K) : awpOp P all e' o K := by
 have hev : ∀ x ∈ o.op.operands.toList, e.ev x = e'.ev x := fun x hx => by
  cases x with
  | tmp t => exact hs t (List.mem_append_left _ (List.mem_filterMap.2 ⟨.tmp t, hx, rfl⟩))
  | _ => rfl
 have hgo : ∀ x ∈ o.op.operands.toList, ∀ t ∈ ment (e.ev x), e.go t = e'.go t := fun x hx t ht => ho t (List.mem_append_left _ (List.mem_flatMap.2 ⟨x, hx, ht⟩))
 have hd : ∀ d, o.dst = some d → e.go d = e'.go d := fun d hd => ho d (List.mem_append_right _ (List.mem_append_right _ (by simp [hd])))
 have hdp : ∀ u ∈ rdC e o, e.go u = e'.go u := fun u hu => ho u (List.mem_append_right _ (List.mem_append_left _ hu))
 unfold awpOp at h ⊢
 split at h
 · exact awpCore_loc hev hgo hd hdp h
 · rename_i j want hg
   cases hj : dstOf all j with
   | none => rw [hj] at h; exact h.elim
   | some d =>
     rw [hj] at h
     simp only at h ⊢
     have hds : e.gs d = e'.gs d := hs d (List.mem_append_right _ (by rw [hg]; simp [hj]))
     simp only [← hds]
     split at h
     · split
       · rename_i hbw; rw [if_pos hbw] at h; exact awpCore_loc hev hgo hd hdp h
       · rename_i hbw; rw [if_neg hbw] at h; exact h
     · exact h
     · exact h.elim
theorem frz1_slots {x x' : AV} {ws : Ws} (h : e.frz1 x = some (x', ws)) : ∀ c ∈ ws, ∃ t, c.1 = .o t := by
 intro c hc
 have plain : (if x.cellP = true then some (x, ([] : Ws)) else none) = some (x', ws) → ∃ t, c.1 = .o t := fun h => by
  split at h
  · cases h; cases hc
  · cases h
 cases x with
 | ref t v =>
   simp only [Env.frz1] at h
   split at h
   · split at h
     · cases h; simp at hc; exact ⟨t, by rw [hc]⟩
     · cases h
   · cases h
 | loc t v i off =>
   simp only [Env.frz1] at h
   split at h
   · split at h
     · split at h
       · split at h
         · cases h; simp at hc; exact ⟨t, by rw [hc]⟩
         · cases h
       · cases h
     · cases h
   · cases h
 | win t v k n =>
   simp only [Env.frz1] at h
   split at h
   · split at h
     · split at h
       · cases h; simp at hc; exact ⟨t, by rw [hc]⟩
       · cases h
     · cases h
   · cases h
 | _ => exact plain h
theorem frzL_slots : ∀ {cs cs' : List AV} {ws : Ws}, e.frzL cs = some (cs', ws) → ∀ c ∈ ws, ∃ t, c.1 = .o t
 | [], cs', ws, h => by simp only [Env.frzL, Option.some.injEq, Prod.mk.injEq] at h; obtain ⟨_, rfl⟩ := h; simp
 | c :: cs, cs', ws, h => by
   simp only [Env.frzL] at h
   cases h1 : e.frz1 c with
   | none => rw [h1] at h; simp at h
   | some p =>
     cases h2 : e.frzL cs with
     | none => rw [h1, h2] at h; simp at h
     | some q =>
       obtain ⟨c', w1⟩ := p
       obtain ⟨cs1, w2⟩ := q
       rw [h1, h2] at h
       simp only [Option.some.injEq, Prod.mk.injEq] at h
       obtain ⟨_, rfl⟩ := h
       intro d hd
       rcases List.mem_append.1 hd with hd | hd
       · exact frz1_slots h1 d hd
       · exact frzL_slots h2 d hd
theorem frz_slots {x x' : AV} {ws : Ws} (h : e.frz x = some (x', ws)) : ∀ c ∈ ws, ∃ t, c.1 = .o t := by
 cases x with
 | agg cs =>
   simp only [Env.frz] at h
   cases h1 : e.frzL cs with
   | none => rw [h1] at h; cases h
   | some p =>
     obtain ⟨cs', w1⟩ := p
     rw [h1] at h
     simp only [Option.some.injEq, Prod.mk.injEq] at h
     obtain ⟨_, rfl⟩ := h
     exact frzL_slots h1
 | _ => simp only [Env.frz] at h; exact frz1_slots h
theorem frzA_slots : ∀ {cs cs' : List AV} {ws : Ws}, e.frzA cs = some (cs', ws) → ∀ c ∈ ws, ∃ t, c.1 = .o t
 | [], cs', ws, h => by simp only [Env.frzA, Option.some.injEq, Prod.mk.injEq] at h; obtain ⟨_, rfl⟩ := h; simp
 | c :: cs, cs', ws, h => by
   simp only [Env.frzA] at h
   cases h1 : e.frz c with
   | none => rw [h1] at h; simp at h
   | some p =>
     cases h2 : e.frzA cs with
     | none => rw [h1, h2] at h; simp at h
     | some q =>
       obtain ⟨c', w1⟩ := p
       obtain ⟨cs1, w2⟩ := q
       rw [h1, h2] at h
       simp only [Option.some.injEq, Prod.mk.injEq] at h
       obtain ⟨_, rfl⟩ := h
       intro d hd
       rcases List.mem_append.1 hd with hd | hd
       · exact frz_slots h1 d hd
       · exact frzA_slots h2 d hd
theorem frz1s_slots {x x' : AV} {ws : Ws} (h : e.frz1s x = some (x', ws)) : ∀ c ∈ ws, ∃ t, c.1 = .o t := by
 unfold Env.frz1s at h
 cases h1 : e.frz1 x with
 | some p => rw [h1] at h; cases h; exact frz1_slots h1
 | none =>
   rw [h1] at h
   simp only at h
   split at h
   · cases h; simp
   · cases h
theorem frzLs_slots : ∀ {cs cs' : List AV} {ws : Ws}, e.frzLs cs = some (cs', ws) → ∀ c ∈ ws, ∃ t, c.1 = .o t
 | [], cs', ws, h => by simp only [Env.frzLs, Option.some.injEq, Prod.mk.injEq] at h; obtain ⟨_, rfl⟩ := h; simp
 | c :: cs, cs', ws, h => by
   simp only [Env.frzLs] at h
   cases h1 : e.frz1s c with
   | none => rw [h1] at h; simp at h
   | some p =>
     cases h2 : e.frzLs cs with
     | none => rw [h1, h2] at h; simp at h
     | some q =>
       obtain ⟨c', w1⟩ := p
       obtain ⟨cs1, w2⟩ := q
       rw [h1, h2] at h
       simp only [Option.some.injEq, Prod.mk.injEq] at h
       obtain ⟨_, rfl⟩ := h
       intro d hd
       rcases List.mem_append.1 hd with hd | hd
       · exact frz1s_slots h1 d hd
       · exact frzLs_slots h2 d hd
theorem frzs_slots {x x' : AV} {ws : Ws} (h : e.frzs x = some (x', ws)) : ∀ c ∈ ws, ∃ t, c.1 = .o t := by
 cases x with
 | agg cs =>
   simp only [Env.frzs] at h
   cases h1 : e.frzLs cs with
   | none => rw [h1] at h; cases h
   | some p =>
     obtain ⟨cs', w1⟩ := p
     rw [h1] at h
     simp only [Option.some.injEq, Prod.mk.injEq] at h
     obtain ⟨_, rfl⟩ := h
     exact frzLs_slots h1
 | _ => simp only [Env.frzs] at h; exact frz1s_slots h
theorem frzAs_slots : ∀ {cs cs' : List AV} {ws : Ws}, e.frzAs cs = some (cs', ws) → ∀ c ∈ ws, ∃ t, c.1 = .o t
 | [], cs', ws, h => by simp only [Env.frzAs, Option.some.injEq, Prod.mk.injEq] at h; obtain ⟨_, rfl⟩ := h; simp
 | c :: cs, cs', ws, h => by
   simp only [Env.frzAs] at h
   cases h1 : e.frzs c with
   | none => rw [h1] at h; simp at h
   | some p =>
     cases h2 : e.frzAs cs with
     | none => rw [h1, h2] at h; simp at h
     | some q =>
       obtain ⟨c', w1⟩ := p
       obtain ⟨cs1, w2⟩ := q
       rw [h1, h2] at h
       simp only [Option.some.injEq, Prod.mk.injEq] at h
       obtain ⟨_, rfl⟩ := h
       intro d hd
       rcases List.mem_append.1 hd with hd | hd
       · exact frzs_slots h1 d hd
       · exact frzAs_slots h2 d hd
theorem oneS_slots {o : Oper} {x : AV} {c : Comp × AV} (h : c ∈ oneS o x) : ∃ d, o.dst = some d ∧ c.1 = .s d := by
 unfold oneS at h
 cases hd : o.dst with
 | none => rw [hd] at h; cases h
 | some d => rw [hd] at h; simp at h; exact ⟨d, rfl, by rw [h]⟩
def OnlyDst (o : Oper) (ws : Ws) : Prop := ∀ c ∈ ws, (∃ t, c.1 = .o t) ∨ ∃ d, o.dst = some d ∧ c.1 = .s d
theorem OnlyDst.one (o : Oper) (x : AV) : OnlyDst o (oneS o x) := fun _ hc => .inr (oneS_slots hc)
theorem OnlyDst.map {o : Oper} {x : Option AV} {ws : Ws} (h : x.map (oneS o) = some ws) : OnlyDst o ws := by
 cases x with
 | none => cases h
 | some x => cases h; exact .one o x
theorem OnlyDst.append {o : Oper} {a b : Ws} (h1 : ∀ c ∈ a, ∃ t, c.1 = .o t) (h2 : OnlyDst o b) : OnlyDst o (a ++ b) := fun c hc => by
 rcases List.mem_append.1 hc with hc | hc
 · exact .inl (h1 c hc)
 · exact h2 c hc
theorem append_objs {d : Nat} {t : TypeId} {x y r : AV} {ws : Ws} (h : e.append P d t x y = some (r, ws)) : ∀ c ∈ ws, ∃ t, c.1 = .o t := by
 unfold Env.append at h
 cases h1 : elemT P t with
 | none => rw [h1] at h; cases h
 | some et =>
 rw [h1] at h
 simp only at h
 split at h
 case h_2 => cases h
 split at h
 case isFalse => cases h
 split at h
 case isFalse => cases h
 split at h
 case isFalse => cases h
 split at h
 · split at h
   · split at h
     · cases h; intro c hc; simp at hc; exact ⟨d, by rw [hc]⟩
     · cases h
   · cases h
 · split at h
   · split at h
     · cases h; intro c hc; simp at hc; exact ⟨d, by rw [hc]⟩
     · cases h
   · cases h
 · split at h
   · split at h
     · split at h
       · split at h
         · split at h
           · cases h; intro c hc; simp at hc
             rcases hc with hc | hc
             · exact ⟨_, by rw [hc]⟩
             · exact ⟨_, by rw [hc]⟩
           · cases h
         · cases h
       · cases h
     · cases h
   · cases h
 · split at h
   · split at h
     · split at h
       · split at h
         · split at h
           · cases h; intro c hc; simp at hc
             exact ⟨_, by rw [hc]⟩
           · cases h
         · cases h
       · cases h
     · cases h
   · cases h
 · cases h
theorem clear_objs {t : TypeId} {x : AV} {ws : Ws} (h : e.clear P t x = some ws) : ∀ c ∈ ws, ∃ t, c.1 = .o t := by
 unfold Env.clear at h
 split at h
 · cases h
 · split at h
   · split at h
     · split at h
       · split at h
         · split at h
           · split at h
             · cases h; intro c hc; simp at hc
               exact ⟨_, by rw [hc]⟩
             · cases h
           · cases h
         · cases h
       · cases h
     · cases h
   · cases h
theorem cutW_objs {ty : TypeId} {t v k : Nat} {n : Option Nat} {lo hi : Option AV} {r : AV} {ws : Ws} (h : e.cutW P ty t v k n lo hi = some (r, ws)) : ws = [] := by
 unfold Env.cutW at h
 split at h
 · split at h
   · split at h
     · split at h
       · split at h
         · unfold within at h
           split at h
           · split at h
             · split at h
               · cases h; rfl
               · cases h
             · cases h
           · cases h
         · cases h
       · cases h
     · cases h
   · cases h
 · cases h
theorem absOp_slots {o : Oper} {ws : Ws} (h : absOp P e o = some ws) : OnlyDst o ws := by
 obtain ⟨dst, op, type, pos, after, guard⟩ := o
 cases op with
 | move x => simp only [absOp, Option.some.injEq] at h; subst h; exact .one _ _
 | assign x => simp only [absOp, Option.some.injEq] at h; subst h; exact .one _ _
 | pick c x y =>
   simp only [absOp] at h
   split at h
   · cases h; exact .one _ _
   · cases h
 | alloc ty =>
   simp only [absOp] at h
   split at h
   · cases h; intro c hc; simp at hc
     rcases hc with hc | hc
     · exact .inl ⟨_, by rw [hc]⟩
     · exact .inr ⟨_, rfl, by rw [hc]⟩
   · cases h
 | box ty x =>
   simp only [absOp] at h
   split at h
   · split at h
     · cases h; intro c hc; simp at hc
       rcases hc with hc | hc
       · exact .inl ⟨_, by rw [hc]⟩
       · exact .inr ⟨_, rfl, by rw [hc]⟩
     · cases h
   · cases h
 | load ty x => simp only [absOp] at h; exact .map h
 | store ty x y =>
   simp only [absOp] at h
   cases hs : e.store P ty (e.ev x) (e.ev y) with
   | none => rw [hs] at h; cases h
   | some w1 =>
     rw [hs] at h
     simp only [Option.map_some, Option.some.injEq] at h; subst h
     refine .append (fun c hc => ?_) (.one _ _)
     unfold Env.store at hs
     split at hs
     · split at hs
       · split at hs
         · split at hs
           · split at hs
             · split at hs
               · split at hs
                 · cases hs; simp at hc; exact ⟨_, by rw [hc]⟩
                 · cases hs
               · cases hs
             · cases hs
           · cases hs
         · cases hs
       · cases hs
     · cases hs
 | nilCheck x =>
   simp only [absOp] at h
   split at h
   · cases h; exact .one _ _
   · cases h
 | binOp op xT x y yT => simp only [absOp] at h; exact .map h
 | unOp op t x => simp only [absOp] at h; exact .map h
 | convert s d x => simp only [absOp] at h; exact .map h
 | fieldAddr ty x f =>
   simp only [absOp] at h
   split at h
   · split at h
     · exact .map h
     · cases h
   · cases h
 | field ty x f =>
   simp only [absOp] at h
   split at h
   · split at h
     · split at h
       · split at h
         · cases h; exact .one _ _
         · cases h
       · cases h
     · split at h
       · cases h; exact .one _ _
       · cases h
     · cases h
   · cases h
 | indexAddr ty x i =>
   simp only [absOp] at h
   split at h
   · exact .map h
   · cases h
 | index ty x i =>
   simp only [absOp] at h
   split at h
   · split at h
     · split at h
       · split at h
         · cases h; exact .one _ _
         · cases h
       · cases h
     · cases h
   · cases h
 | slice ty x lo hi mx =>
   cases mx with
   | some m => simp only [absOp] at h; exact .map h
   | none =>
     simp only [absOp] at h
     cases hc : e.cut P ty (e.ev x) (lo.map e.ev) (hi.map e.ev) with
     | none => rw [hc] at h; cases h
     | some q =>
       obtain ⟨r, w1⟩ := q
       rw [hc] at h
       simp only [Option.some.injEq] at h; subst h
       refine .append (fun c hcm => ?_) (.one _ _)
       unfold Env.cut at hc
       split at hc
       · split at hc
         · split at hc
           · obtain ⟨_, _, _, hq⟩ := within_spec hc
             cases hq; cases hcm
           · cases hc
         · cases hc
       · rw [cutW_objs hc] at hcm; cases hcm
       · rw [cutW_objs hc] at hcm; cases hcm
       · split at hc
         · obtain ⟨_, _, _, hq⟩ := within_spec hc
           cases hq; cases hcm
         · cases hc
       · split at hc
         · rename_i hf
           split at hc
           · split at hc
             · obtain ⟨_, _, _, hq⟩ := within_spec hc
               cases hq
               exact frz1_slots hf c hcm
             · cases hc
           · cases hc
         · cases hc
 | range xT x =>
   simp only [absOp] at h
   split at h
   · split at h
     · cases h; intro c hc; simp at hc
       rcases hc with hc | hc
       · exact .inl ⟨_, by rw [hc]⟩
       · exact .inr ⟨_, rfl, by rw [hc]⟩
     · cases h
   · cases h
 | next x b =>
   cases b with
   | false => simp [absOp] at h
   | true =>
     simp only [absOp] at h
     split at h
     · rename_i hm
       cases h
       exact .append (iterNext_objs hm) (.one _ _)
     · cases h
 | makeSlice ty l c =>
   simp only [absOp] at h
   split at h
   · split at h
     · rename_i hm
       cases h
       refine .append (make_objs hm) (fun c hc => ?_)
       simp at hc
       exact .inr ⟨_, rfl, by rw [hc]⟩
     · cases h
   · cases h
 | extract x i =>
   simp only [absOp] at h
   split at h
   · split at h
     · cases h; exact .one _ _
     · cases h
   · cases h
 | makeFunc fn first caps =>
   cases fn with
   | func f =>
     simp only [absOp] at h
     split at h
     · split at h
       · rename_i hf
         split at h
         · cases h; exact .append (frzA_slots hf) (.one _ _)
         · cases h
       · cases h
     · cases h
   | _ => simp [absOp] at h
 | build ty parts =>
   simp only [absOp] at h
   split at h
   · split at h
     · cases h; exact .one _ _
     · cases h
   · cases h
 | buildSlice ty n parts =>
   simp only [absOp] at h
   split at h
   · split at h
     · split at h
       · split at h
         · rename_i hf
           split at h
           · split at h
             · cases h
               refine .append (frzAs_slots hf) (fun c hc => ?_)
               simp at hc
               rcases hc with hc | hc
               · exact .inl ⟨_, by rw [hc]⟩
               · exact .inr ⟨_, rfl, by rw [hc]⟩
             · cases h
           · cases h
         · cases h
       · cases h
     · cases h
   · cases h
 | call c =>
   obtain ⟨callee, args, ats⟩ := c
   cases callee with
   | builtin b =>
     simp only [absOp] at h
     split at h
     · split at h
       · split at h
         · cases h; exact .one _ _
         · cases h
       · split at h
         · cases h; exact .one _ _
         · cases h
     · split at h
       · cases h; exact .one _ _
       · cases h
     · split at h
       · rename_i hcp
         cases h; exact .append (copy_objs hcp) (.one _ _)
       · cases h
     · rename_i x t _ _
       cases hcl : e.clear P t x with
       | none => rw [hcl] at h; cases h
       | some w1 =>
         rw [hcl] at h
         simp only [Option.map_some, Option.some.injEq] at h; subst h
         exact .append (clear_objs hcl) (.one _ _)
     · split at h
       · split at h
         · split at h
           · rename_i hap
             cases h
             refine .append (append_objs hap) (fun c hc => ?_)
             simp at hc
             exact .inr ⟨_, rfl, by rw [hc]⟩
           · cases h
         · cases h
       · split at h
         · split at h
           · rename_i hap
             cases h
             refine .append (appendZ_objs hap) (fun c hc => ?_)
             simp at hc
             exact .inr ⟨_, rfl, by rw [hc]⟩
           · cases h
         · cases h
     · split at h
       · cases h; exact .one _ _
       · cases h
     · split at h
       · cases h; exact .one _ _
       · cases h
     · cases h
   | _ => simp [absOp] at h
 | _ => simp [absOp] at h
theorem awpCore0_wit {o : Oper} {K : Ws → Prop} (h : awpCore0 P e o K) : ∃ ws, K ws ∧ OnlyDst o ws ∧ ∀ K' : Ws → Prop, K' ws → awpCore0 P e o K' := by
 unfold awpCore0 at h
 split at h
 · rename_i f args ats ho
   cases hf : e.ev f with
   | fn g caps =>
     cases hfr : e.frzA (args.toList.map e.ev) with
     | none => rw [hf, hfr] at h; exact h.elim
     | some q =>
       obtain ⟨as, ws⟩ := q
       rw [hf, hfr] at h
       obtain ⟨r, hg, hR⟩ := h
       refine ⟨_, hR, ?_, fun R' hR' => ?_⟩
       · split
         · exact .append (by simp) (.one _ _)
         · exact .append (frzA_slots hfr) (.one _ _)
       · unfold awpCore0
         rw [ho]
         simp only [hf, hfr]
         exact ⟨r, hg, hR'⟩
   | _ => rw [hf] at h; exact h.elim
 · rename_i hne
   cases hop : absOp P e o with
   | none => rw [hop] at h; exact h.elim
   | some ws =>
     rw [hop] at h
     refine ⟨ws, h, absOp_slots hop, fun R' hR' => ?_⟩
     unfold awpCore0
     split
     · rename_i f args ats ho
       exact absurd ho (hne f args ats)
     · rw [hop]; exact hR'
theorem killsM_objs (e : Env) : ∀ (us : List Nat), ∀ c ∈ killsM e us, ∃ t, c.1 = .o t
 | [], c, h => by cases h
 | u :: us, c, h => by
   rcases List.mem_cons.1 h with rfl | h
   · exact ⟨u, rfl⟩
   · exact killsM_objs e us c h
theorem outsM_objs (e : Env) (m : Nat → Nat → Option (Nat × Nat)) (N n : Nat) : ∀ (out : List (Nat × AV)) (tg : List Nat), ∀ c ∈ outsM e m N n out tg, ∃ t, c.1 = .o t
 | [], _, c, h => by simp [outsM] at h
 | _ :: _, [], c, h => by simp [outsM] at h
 | p :: out, u :: tg, c, h => by
   rcases List.mem_cons.1 h with rfl | h
   · exact ⟨u, rfl⟩
   · exact outsM_objs e m N n out tg c h
theorem awpCore_wit {o : Oper} {K : Ws → Prop} (h : awpCore P e o K) : ∃ ws, K ws ∧ OnlyDst o ws ∧ ∀ K' : Ws → Prop, K' ws → awpCore P e o K' := by
 rcases h with h | h
 · obtain ⟨ws, h1, h2, h3⟩ := awpCore0_wit h
   exact ⟨ws, h1, h2, fun K' hK' => .inl (h3 K' hK')⟩
 · unfold mcallD at h
   split at h
   · rename_i f args ats ho
     cases hf : e.ev f with
     | fn g caps =>
       cases caps with
       | nil =>
         rw [hf] at h
         obtain ⟨d, hg, hfit, hK⟩ := h
         refine ⟨_, hK, .append (fun c hc => ?_) (.one _ _), fun K' hK' => .inr ?_⟩
         · rcases List.mem_append.1 hc with hc | hc
           · exact killsM_objs _ _ c hc
           · exact outsM_objs _ _ _ _ _ _ c hc
         · unfold mcallD
           rw [ho]
           simp only [hf]
           exact ⟨d, hg, hfit, hK'⟩
       | cons c caps => rw [hf] at h; exact h.elim
     | _ => rw [hf] at h; exact h.elim
   · exact h.elim
theorem awpOp_wit {all : List Oper} {o : Oper} {K : Ws → Prop} (h : awpOp P all e o K) : ∃ ws, K ws ∧ OnlyDst o ws ∧ ∀ K' : Ws → Prop, K' ws → awpOp P all e o K' := by
 unfold awpOp at h
 cases hg : o.guard with
 | none =>
   rw [hg] at h
   obtain ⟨ws, h1, h2, h3⟩ := awpCore_wit h
   exact ⟨ws, h1, h2, fun K' hK' => by unfold awpOp; rw [hg]; exact h3 K' hK'⟩
 | some q =>
   obtain ⟨j, want⟩ := q
   rw [hg] at h
   simp only at h
   cases hj : dstOf all j with
   | none => rw [hj] at h; exact h.elim
   | some d =>
     rw [hj] at h
     simp only at h
     cases hb : e.gs d with
     | bool b =>
       rw [hb] at h
       simp only at h
       split at h
       · rename_i hbw
         obtain ⟨ws, h1, h2, h3⟩ := awpCore_wit h
         exact ⟨ws, h1, h2, fun K' hK' => by unfold awpOp; rw [hg]; simp only [hj, hb]; rw [if_pos hbw]; exact h3 K' hK'⟩
       · rename_i hbw
         exact ⟨_, h, .one _ _, fun K' hK' => by unfold awpOp; rw [hg]; simp only [hj, hb]; rw [if_neg hbw]; exact hK'⟩
     | tup cs =>
       rw [hb] at h
       exact ⟨_, h, .one _ _, fun K' hK' => by unfold awpOp; rw [hg]; simp only [hj, hb]; exact hK'⟩
     | _ => rw [hb] at h; exact h.elim
end
end Go.Proofs.YtbhgehhmjpipiaaGreatDoor.Ab
