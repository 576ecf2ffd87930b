/- Every operation of the abstract machine says what the model's does. -/
import Derived.Test.YtbhgehhmjpipiaaGreatDoorAb8
import Derived.Laws.IdiomStrings
import Derived.Laws.Strings
import Derived.Laws.Small
import Derived.Laws.StructEq
import Derived.WalkSpells
import Derived.Lib.SliceRun
set_option linter.unusedSectionVars false
set_option linter.unusedSimpArgs false
set_option linter.unusedVariables false
namespace Go.Proofs.YtbhgehhmjpipiaaGreatDoor.Ab
open Go Go.RowKit
variable [Inhabited DW]
section
variable {P : Program} {w0 : Bs} {Pr0 : Nat → Nat → Prop} {G : Gh} {e : Env} {a : Act} {w : World}
theorem str_beq (x y : ByteArray) : (x.toList == y.toList) = decide (x = y) := by
 rw [Bool.eq_iff_iff, beq_iff_eq, decide_eq_true_iff, ByteArray.toList_eq, ByteArray.toList_eq]
 constructor
 · intro h; cases x; cases y; simp only [ByteArray.mk.injEq]; exact Array.toList_inj.1 h
 · rintro rfl; rfl
theorem eqCells_len : ∀ (ks : List SK) (xs ys : List AV) (b : Bool), eqCells ks xs ys = some b → xs.length = ks.length ∧ ys.length = ks.length
 | [], [], [], _, _ => ⟨rfl, rfl⟩
 | .int :: ks, .int k a :: xs, .int k' c :: ys, b, h => by
   simp only [eqCells] at h
   split at h
   · simp only [Option.map_eq_some_iff] at h
     obtain ⟨r, h, -⟩ := h
     have := eqCells_len ks xs ys r h
     simp [this]
   · cases h
 | .bool :: ks, .bool a :: xs, .bool c :: ys, b, h => by
   simp only [eqCells, Option.map_eq_some_iff] at h
   obtain ⟨r, h, -⟩ := h
   have := eqCells_len ks xs ys r h
   simp [this]
 | .str :: ks, .str a :: xs, .str c :: ys, b, h => by
   simp only [eqCells, Option.map_eq_some_iff] at h
   obtain ⟨r, h, -⟩ := h
   have := eqCells_len ks xs ys r h
   simp [this]
theorem eqCells_append (k2 : List SK) : ∀ (k1 : List SK) (xs ys : List AV) (b : Bool), eqCells (k1 ++ k2) xs ys = some b →
 ∃ b1 b2, eqCells k1 (xs.take k1.length) (ys.take k1.length) = some b1 ∧ eqCells k2 (xs.drop k1.length) (ys.drop k1.length) = some b2 ∧ b = (b1 && b2)
 | [], xs, ys, b, h => ⟨true, b, by simp [eqCells], by simpa using h, rfl⟩
 | .int :: ks, .int k a :: xs, .int k' c :: ys, b, h => by
   simp only [List.cons_append, eqCells] at h
   split at h
   · rename_i hk
     simp only [Option.map_eq_some_iff] at h
     obtain ⟨r, h, rfl⟩ := h
     obtain ⟨b1, b2, h1, h2, rfl⟩ := eqCells_append k2 ks xs ys r h
     exact ⟨decide (a = c) && b1, b2, by simp [eqCells, hk, h1], by simpa using h2, by simp [Bool.and_assoc]⟩
   · cases h
 | .bool :: ks, .bool a :: xs, .bool c :: ys, b, h => by
   simp only [List.cons_append, eqCells, Option.map_eq_some_iff] at h
   obtain ⟨r, h, rfl⟩ := h
   obtain ⟨b1, b2, h1, h2, rfl⟩ := eqCells_append k2 ks xs ys r h
   exact ⟨(a == c) && b1, b2, by simp [eqCells, h1], by simpa using h2, by simp [Bool.and_assoc]⟩
 | .str :: ks, .str a :: xs, .str c :: ys, b, h => by
   simp only [List.cons_append, eqCells, Option.map_eq_some_iff] at h
   obtain ⟨r, h, rfl⟩ := h
   obtain ⟨b1, b2, h1, h2, rfl⟩ := eqCells_append k2 ks xs ys r h
   exact ⟨decide (a = c) && b1, b2, by simp [eqCells, h1], by simpa using h2, by simp [Bool.and_assoc]⟩
def partV (P : Program) (t : TypeId) (cs : Array Value) : Value := if aggT P t = some true then .agg cs else cs.getD 0 undef
theorem run_isAgg' {ty : TypeId} {b : Bool} (h : aggT P ty = some b) (w : World) : (isAgg ty).run P w = .ok b w := by
 unfold aggT at h
 cases hu : P.underlying ty with
 | none => rw [hu] at h; cases h
 | some d =>
   rw [hu] at h
   simp only [Option.map_some, Option.some.injEq] at h
   simp only [isAgg, Sem.run_bind, run_underlying hu, Result.andThen_ok]
   cases d <;> simp_all
def CellsRel (G : Gh) (w : World) (xs : List AV) (vs : Array Value) : Prop := vs.size = xs.length ∧ ∀ (i : Nat) (c : AV) (v : Value), xs[i]? = some c → vs[i]? = some v → VRel G w c v
theorem CellsRel.sub {xs : List AV} {vs : Array Value} (h : CellsRel G w xs vs) (off n : Nat) (hn : off + n ≤ xs.length) : CellsRel G w ((xs.drop off).take n) (vs.extract off (off + n)) := by
 refine ⟨by simp [h.1]; omega, fun i c v h1 h2 => ?_⟩
 have hi : i < n := by
  rcases Nat.lt_or_ge i n with h | h
  · exact h
  · rw [List.getElem?_eq_none (by simp; omega)] at h1; cases h1
 rw [List.getElem?_take_of_lt hi, List.getElem?_drop] at h1
 rw [Array.getElem?_extract] at h2
 split at h2
 · exact h.2 (off + i) c v h1 h2
 · cases h2
theorem eqT_one {d : Nat} {t : TypeId} {ks : List SK} (h : eqT P d t = some ks) : (∃ k, ks = [k] ∧ aggT P t = some false) ∨ (aggT P t = some true ∧ sizeT P t = some ks.length) := by
 cases d with
 | zero => simp [eqT] at h
 | succ d =>
   simp only [eqT] at h
   cases hu : P.underlying t with
   | none => rw [hu] at h; cases h
   | some u =>
     rw [hu] at h
     cases u <;> simp only [Option.some.injEq, reduceCtorEq] at h
     case bool => exact .inl ⟨_, h.symm, by simp [aggT, hu]⟩
     case int => exact .inl ⟨_, h.symm, by simp [aggT, hu]⟩
     case string => exact .inl ⟨_, h.symm, by simp [aggT, hu]⟩
     case struct fs =>
      split at h
      · cases h
      · split at h
        · split at h
          · rename_i hsz
            cases h
            exact .inr ⟨by simp [aggT, hu], hsz⟩
          · cases h
        · cases h
theorem run_sizeOf' {ty : TypeId} {n : Nat} (h : sizeT P ty = some n) (w : World) : (sizeOf ty).run P w = .ok n w := by
 unfold sizeT at h
 cases hi : P.info? ty with
 | none => rw [hi] at h; cases h
 | some i =>
   rw [hi] at h
   simp only [Option.map_some, Option.some.injEq] at h
   subst h
   simp [sizeOf, typeInfo, hi]
theorem run_part {d : Nat} {t : TypeId} {ks : List SK} (h : eqT P d t = some ks) {vs : Array Value} {off : Nat} (hl : off + ks.length ≤ vs.size) (w : World) :
 (part t vs off).run P w = .ok (partV P t (vs.extract off (off + ks.length))) w := by
 rcases eqT_one h with ⟨k, rfl, ha⟩ | ⟨ha, hs⟩
 · simp only [List.length_singleton] at hl
   simp [part, run_isAgg' ha, partV, ha, Array.getD_eq_getD_getElem?, Array.getElem?_eq_getElem (show off < vs.size by omega), show 0 < min (off + 1) vs.size - off by omega]
 · simp [part, run_isAgg' ha, partV, ha, run_sizeOf' hs]
theorem run_equalIn_of : ∀ (d : Nat) (t : TypeId) (ks : List SK) (xs ys : List AV) (va vb : Array Value) (b : Bool) (n : Nat), d ≤ n → eqT P d t = some ks → eqCells ks xs ys = some b → CellsRel G w xs va → CellsRel G w ys vb →
 (Op.equalIn n t (partV P t va) (partV P t vb)).run P w = .ok b w := by
 intro d
 induction d with
 | zero => intro t ks xs ys va vb b n _ h; simp [eqT] at h
 | succ d ih =>
   intro t ks xs ys va vb b n hn h he ha hb
   obtain ⟨n, rfl⟩ : ∃ m, n = m + 1 := ⟨n - 1, by omega⟩
   have h' := h
   simp only [eqT] at h
   have hone : ∀ {xs : List AV} {va : Array Value}, CellsRel G w xs va → xs.length = 1 → aggT P t = some false → ∃ c, xs = [c] ∧ VRel G w c (partV P t va) := fun {xs va} hc hl ht => by
    match xs, hl with
    | [c], _ =>
      obtain ⟨h1, h2⟩ := hc
      simp only [List.length_singleton] at h1
      refine ⟨c, rfl, ?_⟩
      simp only [partV, ht, Option.some.injEq, Bool.false_eq_true, if_false]
      rw [Array.getD_eq_getD_getElem?, Array.getElem?_eq_getElem (by omega)]
      exact h2 0 c _ rfl (Array.getElem?_eq_getElem (by omega))
   obtain ⟨l1, l2⟩ := eqCells_len _ _ _ _ he
   cases hu : P.underlying t with
   | none => rw [hu] at h; cases h
   | some u =>
     rw [hu] at h
     cases u <;> simp only [Option.some.injEq, reduceCtorEq] at h
     case bool =>
      subst h
      have ht : aggT P t = some false := by simp [aggT, hu]
      obtain ⟨c, rfl, r1⟩ := hone ha l1 ht
      obtain ⟨c', rfl, r2⟩ := hone hb l2 ht
      cases c <;> cases c' <;> simp [eqCells] at he
      generalize partV P t va = v1 at *
      generalize partV P t vb = v2 at *
      cases r1; cases r2
      subst he
      exact run_equalIn_bool' w n t _ _ hu
     case int k =>
      subst h
      have ht : aggT P t = some false := by simp [aggT, hu]
      obtain ⟨c, rfl, r1⟩ := hone ha l1 ht
      obtain ⟨c', rfl, r2⟩ := hone hb l2 ht
      cases c <;> cases c' <;> simp [eqCells] at he
      generalize partV P t va = v1 at *
      generalize partV P t vb = v2 at *
      cases r1; cases r2
      obtain ⟨rfl, rfl⟩ := he
      exact run_equalIn_int w n t _ _ _ _ hu
     case string =>
      subst h
      have ht : aggT P t = some false := by simp [aggT, hu]
      obtain ⟨c, rfl, r1⟩ := hone ha l1 ht
      obtain ⟨c', rfl, r2⟩ := hone hb l2 ht
      cases c <;> cases c' <;> simp [eqCells] at he
      generalize partV P t va = v1 at *
      generalize partV P t vb = v2 at *
      cases r1; cases r2
      subst he
      rw [run_equalIn_string w n t _ _ hu, str_beq]
     case struct fs =>
      split at h
      · cases h
      · rename_i hst
        split at h
        · rename_i ks' hfs
          split at h
          · obtain rfl : ks' = ks := by simpa using h
            have ht : aggT P t = some true := by simp [aggT, hu]
            simp only [partV, ht, if_true]
            have hfo : P.fieldsOf t = fs := by simp [Program.fieldsOf, hu]
            rw [run_equalIn_agg w n t va vb (by rw [hfo]; exact hu) (by simpa using hst), hfo]
            have key : ∀ (l : List Field) (off : Nat) (ks : List SK) (b : Bool), eqFs (eqT P d) off l = some ks → off + ks.length ≤ xs.length → off + ks.length ≤ ys.length → eqCells ks ((xs.drop off).take ks.length) ((ys.drop off).take ks.length) = some b →
             (Op.eqFields n va vb l).run P w = .ok b w := by
             intro l
             induction l with
             | nil =>
               intro off ks b h1 _ _ h2
               simp only [eqFs, Option.some.injEq] at h1; subst h1
               simp [eqCells] at h2; subst h2
               simp [Op.eqFields]
             | cons f l ihl =>
               intro off ks b h1 hx hy h2
               simp only [eqFs] at h1
               split at h1
               · cases h1
               · rename_i hname
                 split at h1
                 · rename_i hoff
                   split at h1
                   · rename_i k1 hk1
                     simp only [Option.map_eq_some_iff] at h1
                     obtain ⟨k2, hk2, rfl⟩ := h1
                     simp only [List.length_append] at hx hy h2
                     obtain ⟨b1, b2, e1, e2, rfl⟩ := eqCells_append k2 k1 _ _ b h2
                     simp only [List.take_take, List.drop_take, List.drop_drop, Nat.min_eq_left (Nat.le_add_right k1.length k2.length), Nat.add_sub_cancel_left] at e1 e2
                     have r1 := ih f.type k1 _ _ _ _ b1 n (by omega) hk1 e1 (ha.sub off k1.length (by omega)) (hb.sub off k1.length (by omega))
                     have r2 := ihl (off + k1.length) k2 b2 hk2 (by omega) (by omega) e2
                     have p1 := run_part hk1 (vs := va) (off := off) (by rw [ha.1]; omega) w
                     have p2 := run_part hk1 (vs := vb) (off := off) (by rw [hb.1]; omega) w
                     rw [Op.eqFields, if_pos hname]
                     simp only [Sem.run_bind, hoff, p1, p2, r1, Result.andThen_ok]
                     cases b1
                     · simp
                     · simp [r2]
                   · cases h1
                 · cases h1
            exact key fs.toList 0 ks' b hfs (by omega) (by omega) (by simpa [List.take_of_length_le (Nat.le_of_eq l1), List.take_of_length_le (Nat.le_of_eq l2)] using he)
          · cases h
        · cases h
theorem run_bin {op : BinOp} {xT : TypeId} {x y r : AV} {xv yv : Value} (xo yo : Operand) (hx : VRel G w x xv) (hy : VRel G w y yv) (h : absBin P op xT x y = some r) :
 ∃ v, (do eqGuard op xT xo yo xv yv; binOp op xT xv yv : Sem Value).run P w = .ok v w ∧ VRel G w r v := by
 have nilc : ∀ (A : Option Addr) (n c k : Nat), (k = 0 → n = 0) → (k ≠ 0 → A.isNone = false) → cmpNil op (elemT P xT) k = some r →
  ∃ v, (do eqGuard op xT xo yo (.slice A n c) (.slice none 0 0); binOp op xT (.slice A n c) (.slice none 0 0) : Sem Value).run P w = .ok v w ∧ VRel G w r v := by
  intro A n c k hk0 hk h
  unfold cmpNil at h
  cases he : elemT P xT with
  | none => rw [he] at h; cases h
  | some et =>
    rw [he] at h
    have hu : P.underlying xT = some (.slice et) := by
     unfold elemT at he
     split at he
     · cases he; assumption
     · cases he
    cases op <;> simp only [reduceCtorEq] at h
    · refine ⟨_, by simp only [Sem.run_bind, eqGuard_at_slice, Sem.run_pure, Result.andThen_ok]; exact Lib.run_eql_slice_nil w xT et A n c 0 0 hu, ?_⟩
      split at h
      · cases h; exact .ub _
      · rename_i hne; cases h; rw [hk hne]; exact .bool _
    · refine ⟨_, by simp only [Sem.run_bind, eqGuard_at_slice, Sem.run_pure, Result.andThen_ok]; exact run_neq_slice_nil_any w xT et A n c 0 0 hu, ?_⟩
      split at h
      · cases h; exact .ub _
      · rename_i hne; cases h; rw [hk hne]; exact .bool _
 cases hx with
 | int k m =>
   cases hy with
   | int k' n =>
     simp only [absBin] at h
     split at h
     case isFalse =>
      have hb : ∀ (S : Sem Value) (v : Value), S.run P w = .ok v w → (do eqGuard op xT xo yo (.int k m) (.int k' n); S : Sem Value).run P w = .ok v w := fun S v hS => by
       simp only [eqGuard_at_int, Sem.run_bind, Sem.run_pure, Result.andThen_ok]; exact hS
      cases op with
      | shl =>
        simp only [cmpInt] at h
        split at h
        · cases h
        · rename_i h0; cases h
          exact ⟨_, hb _ _ (by rw [binOp_shl]; simp only [Op.shift]; rw [if_neg h0]; rfl), .int _ _⟩
      | shr =>
        simp only [cmpInt] at h
        split at h
        · cases h
        · rename_i h0; cases h
          exact ⟨_, hb _ _ (by rw [binOp_shr]; simp only [Op.shift]; rw [if_neg h0]; rfl), .int _ _⟩
      | _ => cases h
     rename_i hk
     subst hk
     have e1 : ∀ (p q : Bool), p = q → VRel G w (.bool p) (.bool q) := fun p q h => h ▸ .bool p
     have hb : ∀ (S : Sem Value) (v : Value), S.run P w = .ok v w → (do eqGuard op xT xo yo (.int k m) (.int k n); S : Sem Value).run P w = .ok v w := fun S v hS => by
      simp only [eqGuard_at_int, Sem.run_bind, Sem.run_pure, Result.andThen_ok]; exact hS
     cases op with
     | add => cases h; exact ⟨_, hb _ _ (by rw [binOp_add]; rfl), .int _ _⟩
     | sub => cases h; exact ⟨_, hb _ _ (by rw [binOp_sub]; rfl), .int _ _⟩
     | mul => cases h; exact ⟨_, hb _ _ (by rw [binOp_mul]; rfl), .int _ _⟩
     | quo =>
       simp only [cmpInt] at h
       split at h
       · cases h
       · rename_i h0; cases h
         exact ⟨_, hb _ _ (by rw [binOp_quo]; simp only [Op.intDiv]; rw [if_neg h0]; rfl), .int _ _⟩
     | rem =>
       simp only [cmpInt] at h
       split at h
       · cases h
       · rename_i h0; cases h
         exact ⟨_, hb _ _ (by rw [binOp_rem]; simp only [Op.intDiv]; rw [if_neg h0]; rfl), .int _ _⟩
     | and => cases h; exact ⟨_, hb _ _ (by rw [binOp_and]; rfl), .int _ _⟩
     | or => cases h; exact ⟨_, hb _ _ (by rw [binOp_or]; rfl), .int _ _⟩
     | xor => cases h; exact ⟨_, hb _ _ (by rw [binOp_xor]; rfl), .int _ _⟩
     | andNot => cases h; exact ⟨_, hb _ _ (by rw [binOp_andNot]; rfl), .int _ _⟩
     | shl =>
       simp only [cmpInt] at h
       split at h
       · cases h
       · rename_i h0; cases h
         exact ⟨_, hb _ _ (by rw [binOp_shl]; simp only [Op.shift]; rw [if_neg h0]; rfl), .int _ _⟩
     | shr =>
       simp only [cmpInt] at h
       split at h
       · cases h
       · rename_i h0; cases h
         exact ⟨_, hb _ _ (by rw [binOp_shr]; simp only [Op.shift]; rw [if_neg h0]; rfl), .int _ _⟩
     | eql => cases h; exact ⟨_, hb _ _ (by rw [binOp_eql]; rfl), .bool _⟩
     | neq => cases h; exact ⟨_, hb _ _ (by rw [binOp_neq]; rfl), e1 _ _ (by simp [bne, decide_not]; rfl)⟩
     | lss => cases h; exact ⟨_, hb _ _ (by rw [binOp_lss]; rfl), .bool _⟩
     | leq => cases h; exact ⟨_, hb _ _ (by rw [binOp_leq]; rfl), .bool _⟩
     | gtr => cases h; exact ⟨_, hb _ _ (by rw [binOp_gtr]; rfl), .bool _⟩
     | geq => cases h; exact ⟨_, hb _ _ (by rw [binOp_geq]; rfl), .bool _⟩
   | _ => simp [absBin] at h
 | str s =>
   cases hy with
   | str u =>
     simp only [absBin] at h
     have hb : ∀ o, (binOp o xT (.string s) (.string u)) = Op.stringOp o s u := fun o => by cases o <;> rfl
     cases op <;> simp only [cmpStr] at h <;> (try split at h) <;> (try (cases h; done)) <;> cases h <;>
      first
      | exact ⟨_, by simp only [Sem.run_bind, eqGuard_at_string, hb, Op.stringOp, str_beq]; rfl, .bool _⟩
      | exact ⟨_, by simp only [Sem.run_bind, eqGuard_at_string, hb, Op.stringOp, str_beq, decide_not]; rfl, .bool _⟩
      | (rename_i hle
         refine ⟨.string (s ++ u), ?_, .str _⟩
         simp only [Sem.run_bind, eqGuard_at_string, hb, Op.stringOp, Sem.run_pure, Result.andThen_ok, IntKind.max_i64]
         rw [if_neg (by omega)]
         rfl)
   | _ => simp [absBin] at h
 | bool s =>
   cases hy with
   | bool u =>
     simp only [absBin] at h
     split at h
     case isFalse => cases h
     rename_i ht
     have hu := isBoolT_spec ht
     have hq : (Op.equal xT (.bool s) (.bool u)).run P w = .ok (s == u) w := by
      have h1 : Op.maxDepth = 9999 + 1 := rfl
      rw [Op.equal, h1]
      unfold Op.equalIn
      simp only [Sem.run_bind, run_underlying hu, Result.andThen_ok]
      rfl
     cases op with
     | eql =>
       cases h
       refine ⟨_, ?_, .bool _⟩
       simp only [eqGuard_at_bool, Sem.run_bind, Sem.run_pure, Result.andThen_ok]
       rw [show binOp .eql xT (.bool s) (.bool u) = (do pure (.bool (← Op.equal xT (.bool s) (.bool u)))) from rfl]
       simp only [Sem.run_bind, hq, Result.andThen_ok, Sem.run_pure]
     | neq =>
       cases h
       refine ⟨_, ?_, .bool _⟩
       simp only [eqGuard_at_bool, Sem.run_bind, Sem.run_pure, Result.andThen_ok]
       rw [show binOp .neq xT (.bool s) (.bool u) = (do pure (.bool (!(← Op.equal xT (.bool s) (.bool u))))) from rfl]
       simp only [Sem.run_bind, hq, Result.andThen_ok, Sem.run_pure]
     | _ => simp [cmpBool] at h
   | _ => simp [absBin] at h
 | agg cs va hn hr =>
   cases hy with
   | agg cs' vb hn' hr' =>
     simp only [absBin] at h
     cases hk : eqK P xT with
     | none => rw [hk] at h; simp [cmpAgg] at h
     | some ks =>
       rw [hk] at h
       simp only [Option.bind_some] at h
       cases hc : eqCells ks cs cs' with
       | none => rw [hc] at h; simp [cmpAgg] at h
       | some b =>
         rw [hc] at h
         unfold eqK at hk
         split at hk
         · cases hk
         · rename_i hg
           split at hk
           · rename_i hag
             have hg' : P.eqGuardType P.depth xT = false := by simpa using hg
             have hq := run_equalIn_of (P := P) (G := G) (w := w) 9 xT ks cs cs' va vb b 10000 (by omega) hk hc ⟨hn, hr⟩ ⟨hn', hr'⟩
             simp only [partV, hag, if_true] at hq
             cases op <;> simp only [cmpAgg, reduceCtorEq, Option.some.injEq] at h <;> subst h
             · exact ⟨_, by simp only [Sem.run_bind, run_eqGuard_agg w _ xT xo yo va vb hg', Result.andThen_ok, run_eql_struct, hq], .bool _⟩
             · exact ⟨_, by simp only [Sem.run_bind, run_eqGuard_agg w _ xT xo yo va vb hg', Result.andThen_ok, run_neq_struct, hq], .bool _⟩
           · cases hk
   | _ => simp [absBin] at h
 | nils =>
   cases hy with
   | nils =>
     simp only [absBin] at h
     exact nilc none 0 0 0 (fun q => rfl) (fun q => absurd rfl q) h
   | _ => simp [absBin] at h
 | sl0 A c =>
   cases hy with
   | nils =>
     simp only [absBin] at h
     exact nilc A 0 c 0 (fun q => rfl) (fun q => absurd rfl q) h
   | _ => simp [absBin] at h
 | sl xs b o c esz V h1 h2 h3 h4 h5 h6 =>
   cases hy with
   | nils =>
     simp only [absBin] at h
     exact nilc (some ⟨b, o, none⟩) xs.length c xs.length (fun q => q) (fun q => rfl) h
   | _ => simp [absBin] at h
 | _ => simp [absBin] at h
theorem run_un {op : UnOp} {x r : AV} {xv : Value} (hx : VRel G w x xv) (h : absUn op x = some r) :
 ∃ v, (Op.unary op xv).run P w = .ok v w ∧ VRel G w r v := by
 cases hx with
 | int k n => cases op with
   | neg => cases h; exact ⟨_, rfl, .int _ _⟩
   | xor => cases h; exact ⟨_, rfl, .int _ _⟩
   | _ => simp [absUn] at h
 | bool b => cases op with
   | not => cases h; exact ⟨_, rfl, .bool _⟩
   | _ => simp [absUn] at h
 | _ => simp [absUn] at h
theorem run_conv {s d : TypeId} {x r : AV} {xv : Value} (hx : VRel G w x xv) (hnb : isBytesT P d = false) (h : absConv P s d x = some r) :
 ∃ v, (convert s d xv).run P w = .ok v w ∧ VRel G w r v := by
 cases hx with
 | int k n =>
   simp only [absConv] at h
   cases hs : P.underlying s with
   | none => rw [hs] at h; simp at h
   | some ds =>
   cases hd : intT P d with
   | none => rw [hs, hd] at h; simp at h
   | some k' =>
   rw [hs, hd] at h
   simp only [Option.some.injEq] at h
   subst h
   have hk := intT_spec hd
   have hki : P.intKind d = k' := by simp [Program.intKind, hk]
   refine ⟨_, ?_, .int _ _⟩
   rw [run_convert_int w s d k n (by simp [hs]) (by rw [hki]; exact hk), hki]
 | str t =>
   simp only [absConv] at h
   cases hs : P.underlying s with
   | none => rw [hs] at h; simp at h
   | some ds =>
   rw [hs] at h
   simp only [hnb, Bool.false_eq_true, if_false] at h
   split at h
   case isFalse => cases h
   rename_i ht
   cases h
   have hd := isStrT_spec ht
   refine ⟨.string t, ?_, .str _⟩
   simp only [convert, Sem.run_bind, run_underlying hs, run_underlying hd, Result.andThen_ok]
   cases ds <;> simp
 | _ => simp [absConv] at h
theorem Inv.settle {tm : Array Value} (h : Inv w0 Pr0 G e tm w) {w' : World} (o : Obj) (n : Nat) (hw : w'.heap = w.heap.push o) (hos : w'.os = w.os) (htp : w'.tape = w.tape) (hou : w'.output = w.output) (hdr : w.drawn ≤ w'.drawn) :
 ∃ G', GLe G w G' w' ∧ Inv w0 Pr0 G' e tm w' ∧ (∀ k, k < n → G'.pr w.heap.size k) := by
 let G' : Gh := { G with pr := fun b k => G.pr b k ∨ (b = w.heap.size ∧ k < n) }
 have hold : ∀ k, k < w.heap.size → w'.heap[k]? = w.heap[k]? := fun k hk => by rw [hw, Array.getElem?_push, if_neg (by omega)]
 have hcell : ∀ b o, b < w.heap.size → w'.cell? ⟨b, o, none⟩ = w.cell? ⟨b, o, none⟩ := fun b o hb => by simp [World.cell?, hold b hb]
 have hle : GLe G w G' w' := ⟨fun _ _ h => .inl h, fun _ => Nat.le_refl _, fun _ _ h => .inr h, fun b o v hp hc => by rw [hcell b o (h.prlt b o hp)]; exact hc⟩
 have hB : w0.w.heap.size ≤ w.heap.size := h.below.size
 refine ⟨G', hle, ?_, fun k hk => .inr ⟨rfl, hk⟩⟩
 exact {
  gle := h.gle.trans hle
  below := h.below.step hos htp hou hdr (by rw [hw]; simp) (fun k hk => hold k (Nat.lt_of_lt_of_le (Bs.lt_of hk) hB))
  pr0 := fun b o hp => .inl (h.pr0 b o hp)
  prB := fun b o hb hp => by
   rcases hp with hp | ⟨hp, _⟩
   · exact h.prB b o hb hp
   · exact absurd (.inl (by rw [hp]; exact hB)) hb
  gl := h.gl
  prlt := fun b o hp => by
   rw [hw, Array.size_push]
   rcases hp with hp | ⟨hp, _⟩
   · have := h.prlt b o hp; omega
   · omega
  len := h.len
  slots := fun t a v h1 h2 => (h.slots t a v h1 h2).mono hle
  objs := fun t => by
   refine (h.objs t).mono hle rfl rfl (fun g blk hg hc hb hge => ?_)
   have := (h.objs t).lt hg hc hb
   exact ⟨hold blk this, fun o _ ho => ho.elim id fun q => by omega⟩
  sep := h.sep }
theorem isBytesT_spec {t : TypeId} (h : isBytesT P t = true) : ∃ et, P.underlying t = some (.slice et) ∧ P.underlying et = some (.int .u8) := by
 unfold isBytesT at h
 split at h
 · rename_i et he
   split at h
   · rename_i h2; exact ⟨et, he, h2⟩
   · cases h
 · cases h
theorem strOf_spec : ∀ {ys : List (List AV)} {l : List UInt8}, strOf ys = some l → ∃ ns : List Int, ys = ns.map (fun n => [AV.int .u8 n]) ∧ l = ns.map (fun n => UInt8.ofNat n.toNat)
 | [], l, h => by simp only [strOf, Option.some.injEq] at h; subst h; exact ⟨[], rfl, rfl⟩
 | row :: rest, l, h => by
   unfold strOf at h
   split at h
   · rename_i q; cases q
   · rename_i n rest' q
     cases q
     cases hr : strOf rest with
     | none => rw [hr] at h; cases h
     | some l' =>
       rw [hr] at h
       simp only [Option.map_some, Option.some.injEq] at h
       subst h
       obtain ⟨ns, h1, h2⟩ := strOf_spec hr
       exact ⟨n :: ns, by rw [h1]; rfl, by rw [h2]; rfl⟩
   · cases h
theorem foldl_push : ∀ (ns : List Int) (s : ByteArray), ns.foldl (fun r n => r.push (UInt8.ofNat n.toNat)) s = ⟨s.data ++ (ns.map fun n => UInt8.ofNat n.toNat).toArray⟩
 | [], s => by simp
 | n :: ns, s => by
   rw [List.foldl_cons, foldl_push ns]
   simp [ByteArray.push]
theorem Inv.run_string (hI : Inv w0 Pr0 G e a.tmps w) {s d : TypeId} {x r : AV} {xv : Value} {py : Bool} {ys : List (List AV)} (hx : VRel G w x xv) (hrow : e.rows x = some (py, ys))
 (h : (if isBytesT P s = true then if isStrT P d = true then (strOf ys).map fun l => AV.str ⟨l.toArray⟩ else none else none) = some r) : ∃ t, (convert s d xv).run P w = .ok (.string t) w ∧ r = .str t := by
 split at h
 case isFalse => cases h
 rename_i hbt
 split at h
 case isFalse => cases h
 rename_i hst
 obtain ⟨et, hs, he⟩ := isBytesT_spec hbt
 have hds := isStrT_spec hst
 cases hl : strOf ys with
 | none => rw [hl] at h; cases h
 | some l =>
   rw [hl] at h
   simp only [Option.map_some, Option.some.injEq] at h
   obtain ⟨ns, h1, h2⟩ := strOf_spec hl
   obtain ⟨N⟩ := hI.news (esz := 1) hx hrow (by rw [h1]; simp [rowsLen]) (by rw [h1]; simp [rowsQ, AV.cellQ])
   obtain ⟨A, c, hval, hrel, -, -, -⟩ := N
   subst hval
   have hlen : ys.length = ns.length := by rw [h1]; simp
   refine ⟨⟨l.toArray⟩, ?_, h.symm⟩
   rw [run_convert_bytes_string w s d et A _ c hs he hds]
   have hstr : (⟨l.toArray⟩ : ByteArray) = ns.foldl (fun r n => r.push (UInt8.ofNat n.toNat)) ByteArray.empty := by
    rw [foldl_push, h2]; simp [ByteArray.empty, ByteArray.emptyWithCapacity]; rfl
   rw [hstr]
   cases A with
   | none =>
     have : ys = [] := by
      by_cases hne : ys = []
      · exact hne
      · obtain ⟨b, o, V, hA, _⟩ := hrel hne
        cases hA
     have : ns = [] := List.eq_nil_of_length_eq_zero (by rw [← hlen, this]; rfl)
     subst this
     rfl
   | some ad =>
     refine run_bytesToString w ad _ c ns ?_
     rw [hlen]
     have := run_loadCells_list (P := P) (w := w) ad (ns.map (Value.int .u8)) (fun j v hj => by
      rw [List.getElem?_map] at hj
      cases hn : ns[j]? with
      | none => rw [hn] at hj; cases hj
      | some n =>
        rw [hn] at hj
        simp only [Option.map_some, Option.some.injEq] at hj
        subst hj
        have hne : ys ≠ [] := fun q => by
         have : ns.length = 0 := by rw [← hlen, q]; rfl
         have : ns = [] := List.eq_nil_of_length_eq_zero this
         rw [this] at hn; simp at hn
        obtain ⟨b, o, V, hA, hc⟩ := hrel hne
        cases hA
        have hy : ys[j]? = some [AV.int .u8 n] := by rw [h1, List.getElem?_map, hn]; rfl
        obtain ⟨q1, q2⟩ := hc j 0 _ _ hy rfl
        rw [Nat.mul_one, Nat.add_zero] at q1
        rw [Addr.add_lit, q1]
        generalize V j 0 = u0 at q2
        cases q2
        rfl)
     simpa using this
theorem Inv.run_bytes (hI : Inv w0 Pr0 G e a.tmps w) {s d : TypeId} {x r : AV} {xv : Value} (hx : VRel G w x xv) (hbt : isBytesT P d = true) (h : absConv P s d x = some r) :
 ∃ v w' G', (convert s d xv).run P w = .ok v w' ∧ Inv w0 Pr0 G' e a.tmps w' ∧ VRel G' w' r v := by
 obtain ⟨et, hd, he⟩ := isBytesT_spec hbt
 cases hx with
 | int k n =>
   simp only [absConv] at h
   cases hs : P.underlying s with
   | none => rw [hs] at h; simp at h
   | some ds =>
   have : intT P d = none := by unfold intT; rw [hd]
   rw [hs, this] at h
   simp at h
 | str t =>
   simp only [absConv] at h
   cases hs : P.underlying s with
   | none => rw [hs] at h; simp at h
   | some ds =>
   rw [hs] at h
   simp only [hbt, if_true] at h
   split at h
   case isFalse => cases h
   rename_i hst
   cases h
   have hss := isStrT_spec hst
   have hr := run_bytes_of_string w s d et t hss hd he
   have hge := grownCap_ge w t.size 0 et
   generalize hC : grownCap w t.size 0 et = C at hr hge
   obtain ⟨G', hle, hI', hpr⟩ := hI.settle (w' := w.drew.alloc (.cells (bytesRow t C) et ((bytesRow t C).size, (bytesRow t C).size + 1))) _ t.size rfl rfl rfl rfl (Nat.le_succ _)
   refine ⟨_, _, G', hr, hI', ?_⟩
   have hlen : (bytesAV t).length = t.size := by simp [bytesAV]
   rcases Nat.eq_zero_or_pos t.size with h0 | h0
   · have : bytesAV t = [] := List.eq_nil_of_length_eq_zero (by omega)
     rw [this, h0]
     exact .sl0 _ _
   · have hcell : ∀ i, i < t.size → (bytesRow t C)[i]? = some (.int .u8 ((t.data.getD i 0).toNat : Int)) := fun i hi => by
      have hi' : i < t.data.size := hi
      rw [bytesRow, Array.getElem?_append_left (by simpa using hi'), Array.getElem?_map, Array.getD_eq_getD_getElem?, Array.getElem?_eq_getElem hi']
      rfl
     have hat : ∀ (i j : Nat) (x : List AV) (b : AV), (bytesAV t)[i]? = some x → x[j]? = some b → j = 0 ∧ i < t.size ∧ b = .int .u8 ((t.data.getD i 0).toNat : Int) := fun i j x b hx hb => by
      have hi : i < t.size := by rw [← hlen]; exact (List.getElem?_eq_some_iff.1 hx).1
      have hi' : i < t.data.size := hi
      rw [bytesAV, List.getElem?_map, Array.getElem?_toList, Array.getElem?_eq_getElem hi'] at hx
      simp only [Option.map_some, Option.some.injEq] at hx
      subst hx
      match j, hb with
      | 0, hb =>
        simp only [List.getElem?_cons_zero, Option.some.injEq] at hb
        refine ⟨rfl, hi, ?_⟩
        rw [← hb, Array.getD_eq_getD_getElem?, Array.getElem?_eq_getElem hi']
        rfl
      | j + 1, hb => simp at hb
     have hnew : (w.drew.alloc (.cells (bytesRow t C) et ((bytesRow t C).size, (bytesRow t C).size + 1))).heap[w.heap.size]? = some (.cells (bytesRow t C) et ((bytesRow t C).size, (bytesRow t C).size + 1)) := by
      show (w.heap.push _)[w.heap.size]? = _
      simp
     have key := VRel.sl (G := G') (w := w.drew.alloc (.cells (bytesRow t C) et ((bytesRow t C).size, (bytesRow t C).size + 1))) (bytesAV t) w.heap.size 0 C 1 (fun i _ => .int .u8 ((t.data.getD i 0).toNat : Int)) (by omega)
      (fun x hx => by
        obtain ⟨b, _, rfl⟩ := List.mem_map.1 hx
        rfl)
      (fun x hx b hb => by
        obtain ⟨u, _, rfl⟩ := List.mem_map.1 hx
        simp only [List.mem_cons, List.not_mem_nil, or_false] at hb
        subst hb; rfl)
      (fun i j x b hx hb => by
        obtain ⟨rfl, hi, _⟩ := hat i j x b hx hb
        rw [cell_of_row _ _ _ _ _ _ hnew, Nat.zero_add, Nat.mul_one, Nat.add_zero]
        exact hcell i hi)
      (fun i j x b hx hb => by
        obtain ⟨rfl, hi, _⟩ := hat i j x b hx hb
        rw [Nat.zero_add, Nat.mul_one, Nat.add_zero]
        exact hpr i hi)
      (fun i j x b hx hb => by
        obtain ⟨rfl, hi, rfl⟩ := hat i j x b hx hb
        exact .int _ _)
     rw [hlen] at key
     exact key
 | _ => simp [absConv] at h
theorem Inv.run_make (hI : Inv w0 Pr0 G e a.tmps w) {d : Nat} (hd : d < e.o.length) {ty : TypeId} {l c r : AV} {lv cv : Value} {ws : Ws} (hl : VRel G w l lv) (hc : VRel G w c cv) (h : e.make P d ty l c = some (r, ws)) :
 ∃ v w' G', (Instr.makeSlice ty lv cv).run P w = .ok v w' ∧ Inv w0 Pr0 G' (e.puts ws) a.tmps w' ∧ GLe G w G' w' ∧ VRel G' w' r v := by
 unfold Env.make at h
 cases he : elemT P ty with
 | none => rw [he] at h; cases h
 | some et =>
 obtain ⟨hu, _⟩ := elemT_spec he
 rw [he] at h
 cases hl with
 | int k n =>
   cases hc with
   | int k' m =>
     simp only at h
     cases hs : sizeT P et with
     | none => rw [hs] at h; simp at h
     | some esz =>
     cases hz : zeroT P et with
     | none => rw [hs, hz] at h; simp at h
     | some z =>
     cases hb : bytesT P et with
     | none => rw [hs, hz, hb] at h; simp at h
     | some byt =>
     rw [hs, hz, hb] at h
     simp only at h
     split at h
     case isFalse => cases h
     rename_i hnm
     subst hnm
     split at h
     case isFalse => cases h
     rename_i hn0
     split at h
     case isFalse => cases h
     rename_i hn1
     split at h
     case isFalse => cases h
     rename_i hn2
     split at h
     case isFalse => cases h
     rename_i hz3
     obtain ⟨he0, hzl, hzp⟩ := hz3
     cases h
     obtain ⟨i, zv, hi, hiz, rfl, hzr⟩ := zero_val hz
     simp only [List.length_map, Array.length_toList] at hzl
     obtain ⟨n, rfl⟩ : ∃ q : Nat, n = (q : Int) := ⟨n.toNat, by omega⟩
     rw [Int.toNat_natCast] at hn2 ⊢
     have hbi : i.bytes = byt := by unfold bytesT at hb; rw [hi] at hb; simpa using hb
     have hw : IntKind.i64.wrap (n : Int) = (n : Int) := by
      unfold IntKind.wrap
      simp [IntKind.signed, IntKind.bits]
      omega
     have hti : ∀ w, (typeInfo et).run P w = .ok i w := fun w => by simp [typeInfo, hi]
     have hmul : ((i.bytes : Int) * (n : Int)) ≤ 140737488355328 := by
      rw [hbi, ← Int.natCast_mul, Nat.mul_comm]; exact Int.ofNat_le.2 hn2
     have hsz : n * esz = (Array.map (fun k => zv.cells[k % zv.cells.size]!) (Array.range (n * esz))).size := by simp
     obtain ⟨G', hle, hI', hob, hcnt⟩ := hI.newObj (w' := w.alloc (.cells ((Array.range (n * esz)).map (zv.cells[· % zv.cells.size]!)) et)) d hd et esz n true (List.replicate n (zv.cells.toList.map absV)) ((Array.range (n * esz)).map (zv.cells[· % zv.cells.size]!)) rfl rfl rfl rfl (Nat.le_refl _)
      (fun _ x hx c hc => by
        rw [(List.mem_replicate.1 hx).2] at hc
        exact List.all_eq_true.1 hzp c hc) (fun x hx => by rw [(List.mem_replicate.1 hx).2]; simpa using hzl) (by simp) (by simp only [maxLen]; omega) (by simp)
      (fun p j x b hx hb => by
        have hp : p < n := by have := (List.getElem?_eq_some_iff.1 hx).1; simpa using this
        rw [List.getElem?_replicate, if_pos hp] at hx
        cases hx
        have hj : j < esz := by have := (List.getElem?_eq_some_iff.1 hb).1; simpa [hzl] using this
        have hlt : p * esz + j < n * esz := idx_lt hp hj
        have hm : (p * esz + j) % zv.cells.size = j := by
         rw [hzl, Nat.mul_comm, Nat.mul_add_mod, Nat.mod_eq_of_lt hj]
        refine ⟨zv.cells[j]'(by omega), ?_, zero_rel _ _ j b _ hb (Array.getElem?_eq_getElem (by omega))⟩
        simp only [Array.getElem?_map, Array.getElem?_range, hlt, if_true, Option.map_some, Option.some.injEq, hm]
        exact getElem!_pos zv.cells j (by omega))
     refine ⟨.slice (some ⟨w.heap.size, 0, none⟩) n n, w.alloc (.cells ((Array.range (n * esz)).map (zv.cells[· % zv.cells.size]!)) et), G', ?_, hI', hle, .ref d _ _ (by rw [hcnt]; exact Nat.le_refl _) rfl (fun g hg _ => ?_)⟩
     · have t1 : ¬ ((i.bytes : Int) * (n : Int) > 2 ^ 48) := by omega
       have t2 : ¬ ((n : Int) < 0) := by omega
       have t3 : ¬ (n * i.bytes > roomBytes) := by rw [hbi]; simp only [roomBytes]; omega
       have t4 : (n : Int).toNat = n := Int.toNat_natCast n
       have hai : ∀ (k : IntKind) (x : Int) w, (asInt (.int k x)).run P w = .ok x w := fun k x w => by simp [asInt, asIntOf]
       have c1 : (decide ((n : Int) < 0) || decide ((i.bytes : Int) * (n : Int) > 2 ^ 48)) = false := by rw [decide_eq_false t2, decide_eq_false t1]; rfl
       by_cases hn : n * esz = 0
       · simp only [Instr.makeSlice, Sem.run_bind, run_underlying hu, Result.andThen_ok, hai, hti, hw, c1, run_sizeOf hs, t4]
         simp [t2, t3, askRoom, newRow, run_sizeOf hs, hn]
         rw [show Array.range 0 = #[] from rfl, Array.map_empty, Array.map_empty]
       · simp only [Instr.makeSlice, Sem.run_bind, run_underlying hu, Result.andThen_ok, hai, hti, hw, c1, run_sizeOf hs, t4]
         simp [t2, t3, askRoom, run_sizeOf hs, hn, hzr, newRow]
     · rw [hob] at hg; cases hg
       simp
   | _ => simp at h
 | _ => simp at h
theorem Inv.run_appendZ (hI : Inv w0 Pr0 G e a.tmps w) {d : Nat} (hd : d < e.o.length) {t t' ty : TypeId} {x y r : AV} {xv yv : Value} {ws : Ws} (hx : VRel G w x xv) (hy : VRel G w y yv) (h : e.appendZ P d t t' x y = some (r, ws)) :
 ∃ v w' G', (Builtin.append_ #[t, t'] ty #[xv, yv]).run P w = .ok v w' ∧ Inv w0 Pr0 G' (e.puts ws) a.tmps w' ∧ GLe G w G' w' ∧ VRel G' w' r v := by
 unfold Env.appendZ at h
 cases he : elemT P t with
 | none => rw [he] at h; cases h
 | some et =>
 obtain ⟨hu, _⟩ := elemT_spec he
 cases hit : intT P t' with
 | none => rw [he, hit] at h; cases h
 | some kk =>
 have hu' := intT_spec hit
 rw [he, hit] at h
 cases hx with
 | nils =>
   cases hy with
   | int k n =>
     simp only at h
     cases hs : sizeT P et with
     | none => rw [hs] at h; simp at h
     | some esz =>
     cases hz : zeroT P et with
     | none => rw [hs, hz] at h; simp at h
     | some z =>
     cases hb : bytesT P et with
     | none => rw [hs, hz, hb] at h; simp at h
     | some byt =>
     rw [hs, hz, hb] at h
     simp only at h
     split at h
     case isFalse => cases h
     rename_i hn0
     split at h
     case isFalse => cases h
     rename_i hn1
     split at h
     case isFalse => cases h
     rename_i hn2
     split at h
     case isFalse => cases h
     rename_i hz3
     obtain ⟨he0, hzl, hzp⟩ := hz3
     cases h
     obtain ⟨i, zv, hi, hiz, rfl, hzr⟩ := zero_val hz
     simp only [List.length_map, Array.length_toList] at hzl
     obtain ⟨n, rfl⟩ : ∃ q : Nat, n = (q : Int) := ⟨n.toNat, by omega⟩
     rw [Int.toNat_natCast] at hn2 ⊢
     have hbi : i.bytes = byt := by unfold bytesT at hb; rw [hi] at hb; simpa using hb
     have hsi : i.size = esz := by unfold sizeT at hs; rw [hi] at hs; simpa using hs
     have hw : IntKind.i64.wrap (n : Int) = (n : Int) := by
      unfold IntKind.wrap
      simp [IntKind.signed, IntKind.bits]
      omega
     have hpos : 0 < n := by omega
     have hmul : ((n : Int) * (i.bytes : Int)) ≤ 140737488355328 := by
      rw [hbi, ← Int.natCast_mul]; exact Int.ofNat_le.2 hn2
     have hge := grownCap_ge w n 0 et
     have hcell : ∀ (c p j : Nat), p < c → j < esz → (Builtin.zeroCells zv.cells c)[p * esz + j]? = zv.cells[j]? := fun c p j hp hj => by
      have hlt : p * esz + j < c * zv.cells.size := by rw [hzl]; exact idx_lt hp hj
      have hm : (p * esz + j) % zv.cells.size = j := by rw [hzl, Nat.mul_comm, Nat.mul_add_mod, Nat.mod_eq_of_lt hj]
      simp only [Builtin.zeroCells, Array.getElem?_map, Array.getElem?_range, hlt, if_true, Option.map_some, hm]
      rw [getElem!_pos zv.cells j (by omega), Array.getElem?_eq_getElem (by omega)]
     obtain ⟨G', hle, hI', hob, hcnt⟩ := hI.newObj (w' := w.drew.alloc (.cells (Builtin.zeroCells zv.cells n ++ Builtin.zeroCells zv.cells (grownCap w n 0 et - n)) et)) d hd et esz (grownCap w n 0 et) true (List.replicate n (zv.cells.toList.map absV)) _ rfl rfl rfl rfl (Nat.le_succ _)
      (fun _ x hx c hc => by
        rw [(List.mem_replicate.1 hx).2] at hc
        exact List.all_eq_true.1 hzp c hc) (fun x hx => by rw [(List.mem_replicate.1 hx).2]; simpa using hzl) (by simpa using hge) (grownCap_le_maxLen w _ _ _ (by simp only [maxLen]; omega))
      (by rw [Array.size_append, size_zeroCells, size_zeroCells, hzl, ← Nat.add_mul]; congr 1; omega)
      (fun p j x b hx hb => by
        have hp : p < n := by have := (List.getElem?_eq_some_iff.1 hx).1; simpa using this
        rw [List.getElem?_replicate, if_pos hp] at hx
        cases hx
        have hj : j < esz := by have := (List.getElem?_eq_some_iff.1 hb).1; simpa [hzl] using this
        refine ⟨zv.cells[j]'(by omega), ?_, zero_rel _ _ j b _ hb (Array.getElem?_eq_getElem (by omega))⟩
        rw [Array.getElem?_append_left (by rw [size_zeroCells, hzl]; exact idx_lt hp hj), hcell n p j hp hj]
        exact Array.getElem?_eq_getElem _)
     refine ⟨.slice (some ⟨w.heap.size, 0, none⟩) n (grownCap w n 0 et), _, G', ?_, hI', hle, .ref d _ _ (by rw [hcnt]; exact Nat.le_refl _) rfl (fun g hg _ => ?_)⟩
     · have t1 : ¬ ((n : Int) * (i.bytes : Int) > 2 ^ 48) := by omega
       have t1' : ¬ (281474976710656 < (n : Int) * (i.bytes : Int)) := by omega
       have t2 : ¬ ((n : Int) < 0) := by omega
       have t3 : ¬ (n ≤ 0) := by omega
       have hn : n ≠ 0 := by omega
       have h63' : ¬ (9223372036854775807 < (n : Int)) := by omega
       have h48' : ¬ (281474976710656 < Builtin.nextslicecap n 0 * i.bytes) := by rw [nextslicecap_zero hpos, hbi]; omega
       have hne : ¬ (n = 0 ∨ i.size = 0) := by omega
       simp [Builtin.append_, run_underlying hu, run_underlying hu', sizeOf, typeInfo, zeroValue, hi, hiz, asInt, asIntOf, hw, hn, t1, t1', t2, t3, hne, h63', h48', Question.forced, run_firstCells_none, newRow, grownCap]
       intro q
       exact absurd q (by have := Nat.mul_pos hpos (show 0 < i.size by omega); omega)
     · rw [hob] at hg; cases hg
       simp
   | _ => simp at h
 | _ => simp at h
theorem Inv.run_copyW (hI : Inv w0 Pr0 G e a.tmps w) {sT ty et : TypeId} {t v k n esz : Nat} {ys : List (List AV)} {r y : AV} {yv : Value} {ws : Ws} {A : Option Addr} {cap : Nat} (hu : P.underlying sT = some (.slice et)) (hs : sizeT P et = some esz)
 (h0 : 0 < esz) (hy : VRel G w y yv) (hr : e.rows y = some (true, ys)) (hl : rowsLen esz ys = true)
 (hx : ∀ g, G.ob t = some g → g.ver = v → k + n ≤ g.cap → (k < g.cap → ∃ b, g.base = some ⟨b, 0, none⟩ ∧ A = some ⟨b, k * g.esz, none⟩))
 (h : e.copyW t v k n esz ys = some (r, ws)) :
 ∃ u w' G', (Builtin.copy_ #[sT, sT] ty #[.slice A n cap, yv]).run P w = .ok u w' ∧ Inv w0 Pr0 G' (e.puts ws) a.tmps w' ∧ GLe G w G' w' ∧ VRel G' w' r u := by
 unfold Env.copyW at h
 cases ho : e.go t with
 | obj ver' oty esz' fz pu xs =>
   rw [ho] at h
   cases fz with
   | true => simp at h
   | false =>
   simp only at h
   split at h
   case isFalse => cases h
   rename_i hver
   subst hver
   split at h
   case isFalse => cases h
   rename_i hes
   subst hes
   split at h
   case isFalse => cases h
   rename_i hfit
   cases h
   obtain ⟨hcnt, hpu, hs', g, h4, h5, h6, h7, h8⟩ := hI.obj ho
   obtain ⟨YA, yc, rfl, hrel, hlen, hsetq, hsetp⟩ := hI.news hy hr hl rfl
   have hset := hsetp rfl
   have hln : ∀ m B c, (Builtin.lenOf (.slice B m c)).run P w = .ok m w := fun m B c => by simp [Builtin.lenOf]
   by_cases hm : min ys.length n = 0
   · refine ⟨.int .i64 (min ys.length n : Nat), w, G, ?_, ?_, GLe.refl _ _, .int _ _⟩
     · cases A <;> cases YA <;> simp [Builtin.copy_, run_underlying hu, run_sizeOf hs, Builtin.lenOf, hm, Builtin.firstCells, loadCells, loadCellsFrom, storeCells, goInt]
     · refine Env.puts_same hI ?_
       rw [ho, hm]; simp
   · have hne : ys ≠ [] := fun q => hm (by rw [q]; simp)
     rcases h8 with ⟨_, h9⟩ | ⟨blk, arr, k1, k2, k3, k4, k5, k6, k7, k8, k9⟩
     · rw [h9, List.length_nil] at hfit; omega
     obtain ⟨bb, hb1, rfl⟩ := hx g h4 h5 (by omega) (by omega)
     rw [k1] at hb1; cases hb1
     obtain ⟨b, o, V, rfl, hV⟩ := hrel hne
     generalize hmm : min ys.length n = m at *
     have hmy : m ≤ ys.length := by omega
     have hmn : m ≤ n := by omega
     have hset2 : ∀ x ∈ ys.take m, ∀ a ∈ x, AV.cellP a = true := fun x hx => hset x (List.mem_of_mem_take hx)
     have hlen2 : ∀ x ∈ ys.take m, x.length = esz' := fun x hx => hlen x (List.mem_of_mem_take hx)
     have hmt : (ys.take m).length = m := by rw [List.length_take]; omega
     have hV2 : ∀ (i j : Nat) (x : List AV) (a : AV), (ys.take m)[i]? = some x → x[j]? = some a → w.cell? ⟨b, o + (i * esz' + j), none⟩ = some (V i j) ∧ VRel G w a (V i j) := fun i j x a hx ha => by
      rw [List.getElem?_take] at hx
      split at hx
      · exact hV i j x a hx ha
      · cases hx
     obtain ⟨n1, n2⟩ := news_cells h0 hlen2 (fun x hx a ha => AV.cellQ_of_P (hset2 x hx a ha)) hV2
     rw [hmt] at n1 n2
     have hfl' := flatV_len esz' m V
     obtain ⟨G', hI', hle, hob, hcn, hsize⟩ := hI.overRows (pu' := pu) (ys := ys.take m) ho h4 k1 k3 k7 (k := k) (by rw [hmt]; omega) (flatV esz' m V) (by rw [hfl', hmt])
      (fun i' j' x b' hx hb' => ⟨V i' j', flatV_get (by have := (List.getElem?_eq_some_iff.1 hx).1; omega) (by rw [← hlen2 x (List.mem_of_getElem? hx)]; exact (List.getElem?_eq_some_iff.1 hb').1), (hV2 i' j' x b' hx hb').2⟩) hlen2
      (fun hp => ⟨hp, hset2⟩)
     rw [hmt] at hI'
     have hf := run_firstCells_some (P := P) w esz' m ⟨b, o, none⟩ ys.length yc _ (by rw [hfl']) n1
     have hst := run_storeCells_at P blk (k * esz') oty (flatV esz' m V) 0 arr w k3 (by simpa using hsize) n2
     simp only [Nat.add_zero] at hst
     refine ⟨.int .i64 (m : Nat), _, G', ?_, hI', hle, .int _ _⟩
     simp [Builtin.copy_, run_underlying hu, run_sizeOf hs, Builtin.lenOf, hmm, show Nat.min ys.length n = m from hmm, hf, h7, hst, goInt]
 | _ => rw [ho] at h; simp at h
theorem Inv.run_copy (hI : Inv w0 Pr0 G e a.tmps w) {t t' ty : TypeId} {x y r : AV} {xv yv : Value} {ws : Ws} (hx : VRel G w x xv) (hy : VRel G w y yv) (h : e.copy P t x y = some (r, ws)) :
 ∃ u w' G', (Builtin.copy_ #[t, t'] ty #[xv, yv]).run P w = .ok u w' ∧ Inv w0 Pr0 G' (e.puts ws) a.tmps w' ∧ GLe G w G' w' ∧ VRel G' w' r u := by
 unfold Env.copy at h
 cases he : elemT P t with
 | none => rw [he] at h; cases h
 | some et =>
 obtain ⟨hu, _⟩ := elemT_spec he
 rw [he] at h
 simp only at h
 cases hs : sizeT P et with
 | none => rw [hs] at h; simp at h
 | some esz =>
 cases hr : e.rows y with
 | none => rw [hs, hr] at h; simp at h
 | some q =>
 obtain ⟨pu, ys⟩ := q
 cases pu with
 | false => rw [hs, hr] at h; simp at h
 | true =>
 rw [hs, hr] at h
 simp only at h
 split at h
 case isFalse => cases h
 rename_i h0
 have hcong : ∀ A n c, (Builtin.copy_ #[t, t'] ty #[.slice A n c, yv]).run P w = (Builtin.copy_ #[t, t] ty #[.slice A n c, yv]).run P w := fun A n c => by simp [Builtin.copy_]
 cases hx with
 | ref tt v _ hv h1 hvv =>
   simp only at h
   cases ho : e.go tt with
   | obj ver' oty esz' fz pu xs =>
     rw [ho] at h
     simp only at h
     have hver : v = ver' := by
      unfold Env.copyW at h
      rw [ho] at h
      cases fz with
      | true => simp at h
      | false =>
      simp only at h
      split at h
      · assumption
      · cases h
     subst hver
     obtain ⟨_, _, _, g, h4, h5, h6, h7, h8⟩ := hI.obj ho
     rw [hvv g h4 h5, hcong, h6]
     refine hI.run_copyW hu hs h0.1 hy hr h0.2 (fun g' hg' _ _ hlt => ?_) h
     rw [h4] at hg'; cases hg'
     rcases h8 with ⟨q1, q2⟩ | ⟨blk, arr, k1, _⟩
     · omega
     · exact ⟨blk, k1, by rw [k1, Nat.zero_mul]⟩
   | _ => rw [ho] at h; simp at h
 | win tt v k n _ hv h1 hvv =>
   simp only at h
   have hg : ∃ g, G.ob tt = some g ∧ g.ver = v := by
    unfold Env.copyW at h
    cases ho : e.go tt with
    | obj ver' oty esz' fz pu xs =>
      rw [ho] at h
      cases fz with
      | true => simp at h
      | false =>
      simp only at h
      split at h
      · rename_i hver
        subst hver
        obtain ⟨_, _, _, g, h4, h5, _⟩ := hI.obj ho
        exact ⟨g, h4, h5⟩
      · cases h
    | _ => rw [ho] at h; simp at h
   obtain ⟨g, h4, h5⟩ := hg
   obtain ⟨A, rfl, hcap, hb⟩ := hvv g h4 h5
   rw [hcong]
   refine hI.run_copyW hu hs h0.1 hy hr h0.2 (fun g' hg' _ _ hlt => ?_) h
   rw [h4] at hg'; cases hg'
   exact hb hlt
 | _ => simp at h
theorem fieldT_spec {t : TypeId} {i off : Nat} {ft : TypeId} (h : fieldT P t i = some (off, ft)) : ∃ fs fd, P.underlying t = some (.struct fs) ∧ fs[i]? = some fd ∧ fd.offset = off ∧ fd.type = ft := by
 unfold fieldT at h
 split at h
 · rename_i fs hu
   cases hf : fs[i]? with
   | none => rw [hf] at h; cases h
   | some fd =>
     rw [hf] at h
     simp only [Option.map_some, Option.some.injEq, Prod.mk.injEq] at h
     exact ⟨fs, fd, hu, hf, h.1, h.2⟩
 · cases h
theorem fin {o : Oper} {G' : Gh} {w' : World} {e' : Env} {av : AV} {v : Value} (hI' : Inv w0 Pr0 G' e' a.tmps w') (hd : a.defers = []) (hv : VRel G' w' av v) {K : Act → World → Prop}
 (hK : ∀ G' tm' w', Inv w0 Pr0 G' (e'.puts (oneS o av)) tm' w' → K ⟨tm', []⟩ w') : K (a.put o.dst v) w' := by
 obtain ⟨tm, ds⟩ := a
 simp only at hd
 subst hd
 unfold oneS at hK
 cases hdst : o.dst with
 | none => rw [hdst] at hK; exact hK G' tm w' hI'
 | some d => rw [hdst] at hK; exact hK G' _ w' (hI'.putS d hv)
theorem wp_run {o : Oper} {v : Value} {w' : World} {K : Act → World → Prop} {Q : Exit → Act → World → Prop} (h : (execOp a.eval o).run P w = .ok (.value v) w') (hK : K (a.put o.dst v) w') : o.wp P a w K Q := by
 unfold Oper.wp; rw [h]; exact hK
theorem chop_get {esz : Nat} : ∀ (n : Nat) (l : List AV), l.length = n * esz → ∀ (i j : Nat) (x : List AV) (c : AV), (chop esz n l)[i]? = some x → x[j]? = some c → l[i * esz + j]? = some c
 | 0, l, _, i, j, x, c, h, _ => by simp [chop] at h
 | n + 1, l, hl, i, j, x, c, h, hc => by
   simp only [chop] at h
   rw [Nat.add_mul, Nat.one_mul] at hl
   cases i with
   | zero =>
     simp only [List.getElem?_cons_zero, Option.some.injEq] at h
     subst h
     have hj : j < esz := by
      have := (List.getElem?_eq_some_iff.1 hc).1
      rw [List.length_take] at this; omega
     rw [List.getElem?_take_of_lt hj] at hc
     rw [Nat.zero_mul, Nat.zero_add]; exact hc
   | succ i =>
     rw [List.getElem?_cons_succ] at h
     have := chop_get n (l.drop esz) (by rw [List.length_drop]; omega) i j x c h hc
     rw [List.getElem?_drop] at this
     rw [Nat.add_mul, Nat.one_mul]
     rw [← this]; congr 1; omega
theorem chop_len (esz : Nat) : ∀ (n : Nat) (l : List AV), (chop esz n l).length = n
 | 0, l => rfl
 | n + 1, l => by simp [chop, chop_len esz n]
theorem chop_rows {esz : Nat} : ∀ (n : Nat) (l : List AV), l.length = n * esz → ∀ x ∈ chop esz n l, x.length = esz ∧ ∀ c ∈ x, c ∈ l
 | 0, l, _, x, h => by simp [chop] at h
 | n + 1, l, hl, x, h => by
   rw [Nat.add_mul, Nat.one_mul] at hl
   simp only [chop, List.mem_cons] at h
   rcases h with rfl | h
   · exact ⟨by rw [List.length_take]; omega, fun c hc => List.mem_of_mem_take hc⟩
   · obtain ⟨h1, h2⟩ := chop_rows n (l.drop esz) (by rw [List.length_drop]; omega) x h
     exact ⟨h1, fun c hc => List.mem_of_mem_drop (h2 c hc)⟩
set_option maxHeartbeats 2000000 in
theorem opSound (hI : Inv w0 Pr0 G e a.tmps w) (hd : a.defers = []) {o : Oper} {ws : Ws} (hdl : ∀ d, o.dst = some d → d < e.o.length) (h : absOp P e o = some ws) {K : Act → World → Prop} {Q : Exit → Act → World → Prop}
 (hK : ∀ G' tm' w', Inv w0 Pr0 G' (e.puts ws) tm' w' → K ⟨tm', []⟩ w') : o.wp P a w K Q := by
 obtain ⟨dst, op, type, pos, after, guard⟩ := o
 cases op with
 | move x =>
   simp only [absOp, Option.some.injEq] at h; subst h
   exact wp_run rfl (fin hI hd (hI.ev x) hK)
 | assign x =>
   simp only [absOp, Option.some.injEq] at h; subst h
   exact wp_run rfl (fin hI hd (hI.ev x) hK)
 | pick c x y =>
   simp only [absOp] at h
   split at h
   case h_2 => cases h
   rename_i t ht
   cases h
   have hc := hI.ev c
   rw [ht] at hc
   have hcv : a.eval c = .bool t := by generalize a.eval c = q at hc; cases hc; rfl
   refine wp_run (v := if t then a.eval x else a.eval y) (w' := w) ?_ (fin hI hd ?_ hK)
   · simp [execOp, hcv, asBool]
   · rw [pickAV_eq]; cases t
     · exact hI.ev y
     · exact hI.ev x
 | alloc ty =>
   simp only [absOp] at h
   cases hz : zeroT P ty with
   | none => cases dst <;> simp [hz] at h
   | some cs =>
   cases dst with
   | none => simp at h
   | some d =>
   simp only [hz, Option.some.injEq] at h; subst h
   obtain ⟨i, zv, hi, hiz, rfl, hrun⟩ := zero_val hz
   obtain ⟨G', hle, hI', hob, hcnt⟩ := hI.newObj (w' := w.alloc (.cells zv.cells ty)) d (hdl d rfl) ty zv.cells.size 1 false [zv.cells.toList.map absV] zv.cells rfl rfl rfl rfl (Nat.le_refl _) (by simp) (by simp) (by simp) (by decide) (by simp)
    (fun i j x b hx hb => by
      cases i with
      | succ i => simp at hx
      | zero =>
        simp only [List.getElem?_cons_zero, Option.some.injEq] at hx
        subst hx
        have hj : j < zv.cells.size := by have := (List.getElem?_eq_some_iff.1 hb).1; simpa using this
        exact ⟨zv.cells[j], by rw [Nat.zero_mul, Nat.zero_add]; exact Array.getElem?_eq_getElem hj, zero_rel G w j b _ hb (Array.getElem?_eq_getElem hj)⟩)
   refine wp_run (v := .pointer (some ⟨w.heap.size, 0, none⟩)) (w' := w.alloc (.cells zv.cells ty)) ?_ (fin (o := ⟨some d, .alloc ty, type, pos, after, guard⟩) (av := .loc d (nextVer (e.go d)) 0 0) hI' hd ?_ ?_)
   · simp [execOp, Instr.alloc, hrun, newVar, newRow]
   · refine .loc d _ 0 0 _ (by rw [hcnt]; exact Nat.le_refl _) rfl (fun g hg _ => ?_)
     rw [hob] at hg; cases hg
     exact ⟨w.heap.size, rfl, by simp⟩
   · simpa [Env.puts, oneS] using hK
 | box ty x =>
   simp only [absOp] at h
   cases hc : cellsOf (e.ev x) with
   | none => cases dst <;> simp [hc] at h
   | some cs =>
   cases dst with
   | none => simp at h
   | some d =>
   simp only [hc] at h
   split at h
   case isFalse => cases h
   cases h
   obtain ⟨c1, c2⟩ := cellsOf_rel (hI.ev x) hc
   obtain ⟨G', hle, hI', hob, hcnt⟩ := hI.newObj (w' := w.alloc (.cells (a.eval x).cells ty)) d (hdl d rfl) ty cs.length 1 false [cs] (a.eval x).cells rfl rfl rfl rfl (Nat.le_refl _) (by simp) (by simp) (by simp) (by decide) (by simp [c1])
    (fun i j y b hx hb => by
      cases i with
      | succ i => simp at hx
      | zero =>
        simp only [List.getElem?_cons_zero, Option.some.injEq] at hx
        subst hx
        have hj : j < (a.eval x).cells.size := by have := (List.getElem?_eq_some_iff.1 hb).1; omega
        exact ⟨(a.eval x).cells[j], by rw [Nat.zero_mul, Nat.zero_add]; exact Array.getElem?_eq_getElem hj, c2 j b _ hb (Array.getElem?_eq_getElem hj)⟩)
   refine wp_run (v := .pointer (some ⟨w.heap.size, 0, none⟩)) (w' := w.alloc (.cells (a.eval x).cells ty)) ?_ (fin (o := ⟨some d, .box ty x, type, pos, after, guard⟩) (av := .loc d (nextVer (e.go d)) 0 0) hI' hd ?_ ?_)
   · simp [execOp, Instr.box, newVar, newRow]
   · refine .loc d _ 0 0 _ (by rw [hcnt]; exact Nat.le_refl _) rfl (fun g hg _ => ?_)
     rw [hob] at hg; cases hg
     exact ⟨w.heap.size, rfl, by simp⟩
   · simpa [Env.puts, oneS] using hK
 | load ty x =>
   simp only [absOp] at h
   cases hl : e.load P ty (e.ev x) with
   | none => rw [hl] at h; cases h
   | some r =>
   rw [hl] at h
   simp only [Option.map_some, Option.some.injEq] at h; subst h
   obtain ⟨v, hr, hv⟩ := hI.run_load (hI.ev x) hl
   exact wp_run (v := v) (w' := w) (by simp [execOp, hr]) (fin hI hd hv hK)
 | store ty x y =>
   simp only [absOp] at h
   cases hl : e.store P ty (e.ev x) (e.ev y) with
   | none => rw [hl] at h; cases h
   | some r =>
   rw [hl] at h
   simp only [Option.map_some, Option.some.injEq] at h; subst h
   obtain ⟨w', G', hr, hI', hle⟩ := hI.run_store (hI.ev x) (hI.ev y) hl
   have hrun : (execOp a.eval ⟨dst, .store ty x y, type, pos, after, guard⟩).run P w = .ok .skip w' := by simp [execOp, hr]
   unfold Oper.wp; rw [hrun]
   exact fin (o := ⟨dst, .store ty x y, type, pos, after, guard⟩) (v := undef) hI' hd (.any _) (by simpa only [Env.puts_append] using hK)
 | nilCheck x =>
   simp only [absOp] at h
   cases hc : e.cellsAt (e.ev x) with
   | none => rw [hc] at h; cases h
   | some cs =>
   rw [hc] at h
   simp only [Option.some.injEq] at h; subst h
   obtain ⟨b, o, V, hv, _⟩ := hI.cellsAt (hI.ev x) hc
   exact wp_run (v := a.eval x) (w' := w) (by simp [execOp, hv]) (fin hI hd (hI.ev x) hK)
 | binOp op xT x y yT =>
   simp only [absOp] at h
   cases hb : absBin P op xT (e.ev x) (e.ev y) with
   | none => rw [hb] at h; cases h
   | some r =>
   rw [hb] at h
   simp only [Option.map_some, Option.some.injEq] at h; subst h
   obtain ⟨v, hr, hv⟩ := run_bin x y (hI.ev x) (hI.ev y) hb
   exact wp_run (v := v) (w' := w) (by simp only [execOp, Sem.run_bind] at hr ⊢; rw [hr]; rfl) (fin hI hd hv hK)
 | unOp op t x =>
   simp only [absOp] at h
   cases hb : absUn op (e.ev x) with
   | none => rw [hb] at h; cases h
   | some r =>
   rw [hb] at h
   simp only [Option.map_some, Option.some.injEq] at h; subst h
   obtain ⟨v, hr, hv⟩ := run_un (P := P) (hI.ev x) hb
   exact wp_run (v := v) (w' := w) (by simp [execOp, hr]) (fin hI hd hv hK)
 | convert s d x =>
   simp only [absOp] at h
   cases hb : e.conv P s d (e.ev x) with
   | none => rw [hb] at h; cases h
   | some r =>
   rw [hb] at h
   simp only [Option.map_some, Option.some.injEq] at h; subst h
   unfold Env.conv at hb
   cases hrow : e.rows (e.ev x) with
   | some q =>
     obtain ⟨py, ys⟩ := q
     rw [hrow] at hb
     simp only at hb
     obtain ⟨s', hr, hv⟩ := hI.run_string (hI.ev x) hrow hb
     subst hv
     exact wp_run (v := .string s') (w' := w) (by simp [execOp, hr]) (fin hI hd (.str s') hK)
   | none =>
   rw [hrow] at hb
   simp only at hb
   cases hbt : isBytesT P d with
   | false =>
     obtain ⟨v, hr, hv⟩ := run_conv (hI.ev x) hbt hb
     exact wp_run (v := v) (w' := w) (by simp [execOp, hr]) (fin hI hd hv hK)
   | true =>
     obtain ⟨v, w', G', hr, hI', hv⟩ := hI.run_bytes (hI.ev x) hbt hb
     exact wp_run (v := v) (w' := w') (by simp [execOp, hr]) (fin hI' hd hv hK)
 | fieldAddr ty x f =>
   simp only [absOp] at h
   cases hf : fieldT P ty f with
   | none => rw [hf] at h; simp at h
   | some p =>
   obtain ⟨off, ft⟩ := p
   cases hc : e.cellsAt (e.ev x) with
   | none => rw [hf, hc] at h; simp at h
   | some cs =>
   rw [hf, hc] at h
   simp only at h
   cases hs : sizeT P ft with
   | none => rw [hs] at h; simp at h
   | some m =>
   rw [hs] at h
   cases m with
   | zero => simp at h
   | succ m =>
   simp only at h
   obtain ⟨fs, fd, hu, hfd, rfl, rfl⟩ := fieldT_spec hf
   obtain ⟨b, o, V, hv, _⟩ := hI.cellsAt (hI.ev x) hc
   have hrun : (execOp a.eval ⟨dst, .fieldAddr ty x f, type, pos, after, guard⟩).run P w = .ok (.value (.pointer (some ⟨b, o + fd.offset, none⟩))) w := by
    simp [execOp, hv, Instr.fieldAt, run_underlying hu, hfd, Instr.sureAddr, fieldPlace, run_sizeOf hs, Addr.add_lit]
   have hx := hI.ev x
   rw [hv] at hx
   generalize hxx : e.ev x = xx at hx h hc
   cases hx with
   | ptr cs' b o V' h3 h4 h5 h6 =>
     simp only [addOff, Option.map_some, Option.some.injEq] at h; subst h
     refine wp_run hrun (fin hI hd (.ptr _ b (o + fd.offset) (fun j => V' (fd.offset + j)) (fun c hc => h3 c (List.mem_of_mem_drop hc)) (fun j c hj => ?_) (fun j c hj => ?_) (fun j c hj => ?_)) hK)
     · rw [List.getElem?_drop] at hj; rw [Nat.add_assoc]; exact h4 _ c hj
     · rw [List.getElem?_drop] at hj; rw [Nat.add_assoc]; exact h5 _ c hj
     · rw [List.getElem?_drop] at hj; exact h6 _ c hj
   | loc t ver i off _ hv1 h1 h2 =>
     simp only [addOff, Option.map_some, Option.some.injEq] at h; subst h
     refine wp_run hrun (fin hI hd (.loc t ver i _ _ hv1 rfl (fun g hg he => ?_)) hK)
     obtain ⟨b', q1, q2⟩ := h2 g hg he
     simp only [Value.pointer.injEq, Option.some.injEq, Addr.mk.injEq, and_true] at q2
     exact ⟨b', q1, by rw [q2.1, q2.2, Nat.add_assoc]⟩
   | _ => simp [Env.cellsAt] at hc
 | field ty x f =>
   simp only [absOp] at h
   cases hf : fieldT P ty f with
   | none => rw [hf] at h; simp at h
   | some p =>
   obtain ⟨off, ft⟩ := p
   obtain ⟨fs, fd, hu, hfd, rfl, rfl⟩ := fieldT_spec hf
   rw [hf] at h
   have hx := hI.ev x
   generalize hxx : e.ev x = xx at hx h
   generalize hxv : a.eval x = xv at hx
   cases hx with
   | agg cs vs hn hr =>
     simp only at h
     cases ha : aggT P fd.type with
     | none => rw [ha] at h; simp at h
     | some b =>
     rw [ha] at h
     cases b with
     | true =>
       simp only at h
       cases hs : sizeT P fd.type with
       | none => rw [hs] at h; simp at h
       | some n =>
       rw [hs] at h
       simp only at h
       split at h
       case isFalse => cases h
       rename_i hle
       cases h
       refine wp_run (v := .agg (vs.extract fd.offset (fd.offset + n))) (w' := w) ?_ (fin hI hd (.agg _ _ ?_ (fun i c v hc hv => ?_)) hK)
       · simp [execOp, hxv, Instr.field, run_underlying hu, hfd, asAgg, part, run_isAgg ha, run_sizeOf hs]
       · simp; omega
       · have hi : i < n := by
          rcases Nat.lt_or_ge i n with h | h
          · exact h
          · rw [List.getElem?_eq_none (by simp; omega)] at hc; cases hc
         rw [List.getElem?_take_of_lt hi, List.getElem?_drop] at hc
         rw [Array.getElem?_extract, if_pos (by omega)] at hv
         exact hr _ c v hc hv
     | false =>
       simp only at h
       cases hg : cs[fd.offset]? with
       | none => rw [hg] at h; simp at h
       | some c =>
       rw [hg] at h
       simp only [Option.some.injEq] at h; subst h
       have hlt : fd.offset < vs.size := by rw [hn]; exact (List.getElem?_eq_some_iff.1 hg).1
       refine wp_run (v := vs[fd.offset]) (w' := w) ?_ (fin hI hd (hr _ c _ hg (Array.getElem?_eq_getElem hlt)) hK)
       simp [execOp, hxv, Instr.field, run_underlying hu, hfd, asAgg, part, run_isAgg ha, hlt]
   | _ => simp at h
 | indexAddr ty x i =>
   simp only [absOp] at h
   split at h
   case h_2 => cases h
   rename_i k n hn
   cases hb : e.index P ty (e.ev x) n with
   | none => rw [hb] at h; cases h
   | some r =>
   rw [hb] at h
   simp only [Option.map_some, Option.some.injEq] at h; subst h
   have hi := hI.ev i
   rw [hn] at hi
   generalize hv : a.eval i = iv at hi
   cases hi
   obtain ⟨v, hr, hv'⟩ := hI.run_index (k := k) (hI.ev x) hb
   exact wp_run (v := v) (w' := w) (by simp [execOp, hv, hr]) (fin hI hd hv' hK)
 | index ty x i =>
   simp only [absOp] at h
   have hx := hI.ev x
   have hi := hI.ev i
   generalize hxx : e.ev x = xx at hx h
   generalize hii : e.ev i = ii at hi h
   generalize hxv : a.eval x = xv at hx
   generalize hiv : a.eval i = iv at hi
   cases hx with
   | str s =>
     cases hi with
     | int k n =>
       simp only at h
       split at h
       case isFalse => cases h
       rename_i hst
       split at h
       case isFalse => cases h
       rename_i h0
       split at h
       case isFalse => cases h
       rename_i h1
       cases h
       have hu := isStrT_spec hst
       have hn : n.toNat < s.size := by omega
       have hb : byteAt s n.toNat = (s[n.toNat].toNat : Int) := by
        unfold byteAt
        rw [List.getD_eq_getElem?_getD, Array.getElem?_toList, Array.getElem?_eq_getElem (show n.toNat < s.data.size from hn)]
        rfl
       refine wp_run (v := .int .u8 (byteAt s n.toNat)) (w' := w) ?_ (fin hI hd (.int _ _) hK)
       rw [hb]
       simp [execOp, hxv, hiv, Instr.index, asIntOf, run_underlying hu, h0, hn]
     | _ => simp at h
   | _ => simp at h
 | slice ty x lo hi mx =>
   cases mx with
   | some m =>
     simp only [absOp] at h
     cases hc : e.cut3 P ty (e.ev x) (lo.map e.ev) (hi.map e.ev) (e.ev m) with
     | none => rw [hc] at h; cases h
     | some r =>
     rw [hc] at h
     simp only [Option.map_some, Option.some.injEq] at h; subst h
     have opt : ∀ (o : Option Operand) (y : AV), o.map e.ev = some y → ∃ v, o.map a.eval = some v ∧ VRel G w y v := fun o y ho => by
      cases o with
      | none => cases ho
      | some z => cases ho; exact ⟨_, rfl, hI.ev z⟩
     have optn : ∀ (o : Option Operand), o.map e.ev = none → o.map a.eval = none := fun o ho => by cases o <;> simp_all
     obtain ⟨v, hr, hv⟩ := hI.run_cut3 (hI.ev x) (opt lo) (optn lo) (opt hi) (hI.ev m) hc
     exact wp_run (v := v) (w' := w) (by simp [execOp, hr]) (fin hI hd hv hK)
   | none =>
   simp only [absOp] at h
   cases hc : e.cut P ty (e.ev x) (lo.map e.ev) (hi.map e.ev) with
   | none => rw [hc] at h; cases h
   | some q =>
   obtain ⟨r, ws1⟩ := q
   rw [hc] at h
   simp only [Option.some.injEq] at h; subst h
   have opt : ∀ (o : Option Operand) (y : AV), o.map e.ev = some y → ∃ v, o.map a.eval = some v ∧ VRel G w y v := fun o y ho => by
    cases o with
    | none => cases ho
    | some z => cases ho; exact ⟨_, rfl, hI.ev z⟩
   have optn : ∀ (o : Option Operand), o.map e.ev = none → o.map a.eval = none := fun o ho => by cases o <;> simp_all
   obtain ⟨v, G', hr, hI', hle, hv⟩ := hI.run_cut (hI.ev x) (opt lo) (optn lo) (opt hi) (optn hi) hc
   exact wp_run (v := v) (w' := w) (by simp [execOp, hr]) (fin hI' hd hv (by simpa only [Env.puts_append] using hK))
 | extract x i =>
   simp only [absOp] at h
   have hx := hI.ev x
   generalize hxx : e.ev x = xx at hx h
   generalize hxv : a.eval x = xv at hx
   cases hx with
   | tup cs vs hn hr =>
     simp only at h
     cases hg : cs[i]? with
     | none => rw [hg] at h; simp at h
     | some c =>
     rw [hg] at h
     simp only [Option.some.injEq] at h; subst h
     have hlt : i < vs.size := by rw [hn]; exact (List.getElem?_eq_some_iff.1 hg).1
     refine wp_run (v := vs[i]) (w' := w) ?_ (fin hI hd (hr _ c _ hg (Array.getElem?_eq_getElem hlt)) hK)
     simp [execOp, hxv, Instr.extract, hlt]
   | _ => simp at h
 | makeFunc fn first caps =>
   cases fn with
   | func f =>
     simp only [absOp] at h
     split at h
     case isFalse => cases h
     rename_i hfz
     cases hc : e.frzA (caps.toList.map e.ev) with
     | none => rw [hc] at h; cases h
     | some q =>
     obtain ⟨cs, ws1⟩ := q
     rw [hc] at h
     simp only at h
     split at h
     case isFalse => cases h
     rename_i hall
     cases h
     obtain ⟨G', hle, hI', hS, hn, hR, _⟩ := frzA_sound (caps.toList.map e.ev) cs ws1 G e (fun i => a.eval (caps.toList.getD i (.func 0))) (Sam.refl e) hI (fun i c hi => by
      rw [List.getElem?_map] at hi
      cases hci : caps.toList[i]? with
      | none => rw [hci] at hi; cases hi
      | some o' =>
        rw [hci] at hi
        simp only [Option.map_some, Option.some.injEq] at hi
        subst hi
        rw [List.getD_eq_getElem?_getD, hci]
        exact hI.ev o') hc
     have hf0 : first = #[] := Array.eq_empty_of_size_eq_zero hfz
     subst hf0
     refine wp_run (v := .func (.func f) #[] (caps.map a.eval)) (w' := w) (by simp [execOp, Instr.makeFunc]) (fin hI' hd (.fn f cs _ (by simp [hn]) (fun c hc => List.all_eq_true.1 hall c hc) (fun i c v hci hv => ?_)) (by simpa only [Env.puts_append] using hK))
     have := hR i c hci
     rw [Array.getElem?_map] at hv
     cases hq : caps[i]? with
     | none => rw [hq] at hv; cases hv
     | some o' =>
       rw [hq] at hv
       simp only [Option.map_some, Option.some.injEq] at hv
       subst hv
       rw [List.getD_eq_getElem?_getD, Array.getElem?_toList, hq] at this
       exact this
   | _ => simp [absOp] at h
 | build ty parts =>
   simp only [absOp] at h
   cases hp : placesT P ty with
   | none => rw [hp] at h; simp at h
   | some pl =>
   cases hz : zeroT P ty with
   | none => rw [hp, hz] at h; simp at h
   | some z =>
   rw [hp, hz] at h
   simp only at h
   cases hl : layParts (fun i => pl[i]?) z (parts.toList.map fun p => (p.1, e.ev p.2)) with
   | none => rw [hl] at h; cases h
   | some cs =>
   rw [hl] at h
   simp only [Option.some.injEq] at h; subst h
   obtain ⟨i, zv, hi, hiz, rfl, hzr⟩ := zero_val hz
   obtain ⟨fs, hu, hpr⟩ := run_places hp
   obtain ⟨out, o1, o2, o3⟩ := layParts_sound (G := G) (w := w) (fun i => pl[i]?) (parts.toList.map fun p => (p.1, e.ev p.2)) (parts.toList.map fun p => (p.1, a.eval p.2)) _ zv.cells cs (by simp)
    (fun i p q hp hq => by
      rw [List.getElem?_map] at hp hq
      cases hci : parts.toList[i]? with
      | none => rw [hci] at hp; cases hp
      | some r =>
        rw [hci] at hp hq
        simp only [Option.map_some, Option.some.injEq] at hp hq
        subst hp hq
        exact ⟨rfl, hI.ev _⟩) (by simp) (fun i c v hc hv => zero_rel G w i c v hc hv) hl
   refine wp_run (v := .agg out) (w' := w) ?_ (fin hI hd (.agg cs out o2 o3) hK)
   have hpp : (parts.map fun (p : Nat × Operand) => (p.1, a.eval p.2)).toList = parts.toList.map fun p => (p.1, a.eval p.2) := by simp
   simp only [execOp, Instr.build, Sem.run_bind, hzr, Result.andThen_ok, run_underlying hu, hpr, hpp]
   rw [show (fun x => pl.toArray[x]?) = (fun i => pl[i]?) from funext fun i => by simp, o1]
   rfl
 | range xT x =>
   simp only [absOp] at h
   cases dst with
   | none => simp at h
   | some d =>
   have hx := hI.ev x
   cases hs : e.ev x with
   | str s =>
     rw [hs] at h hx
     simp only at h
     split at h
     case isFalse => cases h
     rename_i hst
     cases h
     have hv : a.eval x = .string s := by generalize a.eval x = q at hx; cases hx; rfl
     obtain ⟨G', hle, hI', hob, hcnt⟩ := hI.newIter d (hdl d rfl) s
     refine wp_run (v := .pointer (some ⟨w.heap.size, 0, none⟩)) (w' := w.iter s 0) ?_ (fin (o := ⟨some d, .range xT x, type, pos, after, guard⟩) (av := .loc d (nextVer (e.go d)) 0 0) hI' hd ?_ ?_)
     · simp [execOp, hv, run_range_string w xT s (isStrT_spec hst)]
     · refine .loc d _ 0 0 _ (by rw [hcnt]; exact Nat.le_refl _) rfl (fun g hg _ => ?_)
       rw [hob] at hg; cases hg
       exact ⟨w.heap.size, rfl, by simp⟩
     · simpa [Env.puts, oneS] using hK
   | _ => rw [hs] at h; simp at h
 | next x b =>
   cases b with
   | false => simp [absOp] at h
   | true =>
   simp only [absOp] at h
   cases hn : e.iterNext (e.ev x) with
   | none => rw [hn] at h; cases h
   | some q =>
   obtain ⟨r, ws1⟩ := q
   rw [hn] at h
   simp only [Option.some.injEq] at h
   subst h
   have hx := hI.ev x
   unfold Env.iterNext at hn
   split at hn
   case h_2 => cases hn
   rename_i t v hev
   split at hn
   case h_2 => cases hn
   rename_i v' s ip hgo
   split at hn
   case isFalse => cases hn
   rename_i hvv
   subst hvv
   have hob := hI.objs t
   rw [hgo] at hob
   obtain ⟨h1, g, blk, h4, h5, k1, k7, k2, k3, k9⟩ := hob
   rw [hev] at hx
   have hv : a.eval x = .pointer (some ⟨blk, 0, none⟩) := by
    generalize a.eval x = q at hx
    cases hx with
    | loc _ _ _ _ _ hv hone hh =>
      obtain ⟨b, hb, hq⟩ := hh g h4 h5
      rw [k1] at hb; cases hb
      simpa using hq
   have hrun0 : ∀ (ty : TypeId), (Instr.next (.pointer (some ⟨blk, 0, none⟩)) true ty).run P w = if ip < s.size then (if hh : ip < s.size then (if (s[ip]'hh).toNat < 128 then .ok (.tuple #[.bool true, .int .i64 ip, .int .i32 (s[ip]'hh).toNat]) { w with heap := w.heap.setIfInBounds blk (.stringIter s (ip + 1)) } else (Instr.next (.pointer (some ⟨blk, 0, none⟩)) true ty).run P w) else .ok undef w) else .ok (.tuple #[.bool false]) w := fun ty => by
    by_cases hh : ip < s.size
    · rw [if_pos hh, dif_pos hh]
      by_cases hb : (s[ip]'hh).toNat < 128
      · rw [if_pos hb]
        simp [Instr.next, getObj, setObj, Sem.run, Sem.run_bind, Result.andThen, k3, hh, decode_ascii s ip hh hb, goInt]
      · rw [if_neg hb]
    · rw [if_neg hh]
      simp [Instr.next, getObj, Sem.run, k3, hh]
   split at hn
   · rename_i hlt
     split at hn
     case isFalse => cases hn
     rename_i hb
     cases hn
     have hbyte : byteAt s ip = ((s[ip]'hlt).toNat : Int) := by
      have hl : ip < s.data.toList.length := hlt
      rw [byteAt, List.getD_eq_getElem?_getD, List.getElem?_eq_getElem hl]
      rfl
     have hb' : (s[ip]'hlt).toNat < 128 := by omega
     have htl : t < e.o.length := by
      rcases Nat.lt_or_ge t e.o.length with q | q
      · exact q
      · rw [Env.go, List.getD_eq_getElem?_getD, List.getElem?_eq_none q] at hgo; cases hgo
     obtain ⟨hI', hle⟩ := hI.iterStep (pos' := ip + 1) hgo htl h4 k1
     refine wp_run (v := .tuple #[.bool true, .int .i64 ip, .int .i32 (s[ip]'hlt).toNat]) (w' := { w with heap := w.heap.setIfInBounds blk (.stringIter s (ip + 1)) }) ?_ (fin (o := ⟨dst, .next x true, type, pos, after, guard⟩) (av := .tup [.bool true, .int .i64 (ip : Nat), .int .i32 (byteAt s ip)]) hI' hd ?_ ?_)
     · have := hrun0 type
       rw [if_pos hlt, dif_pos hlt, if_pos hb'] at this
       simp [execOp, hv, this]
     · rw [hbyte]
       refine .tup _ _ rfl (fun i c u hc hu => ?_)
       match i with
       | 0 => simp at hc hu; subst hc hu; exact .bool _
       | 1 => simp at hc hu; subst hc hu; exact .int _ _
       | 2 => simp at hc hu; subst hc hu; exact .int _ _
       | i + 3 => simp at hc
     · simpa only [Env.puts_append, Env.puts] using hK
   · rename_i hlt
     cases hn
     refine wp_run (v := .tuple #[.bool false]) (w' := w) ?_ (fin (o := ⟨dst, .next x true, type, pos, after, guard⟩) (av := .tup [.bool false]) hI hd ?_ hK)
     · have := hrun0 type
       rw [if_neg hlt] at this
       simp [execOp, hv, this]
     · refine .tup _ _ rfl (fun i c u hc hu => ?_)
       match i with
       | 0 => simp at hc hu; subst hc hu; exact .bool _
       | i + 1 => simp at hc
 | makeSlice ty l c =>
   simp only [absOp] at h
   cases dst with
   | none => simp at h
   | some d =>
   simp only at h
   cases hm : e.make P d ty (e.ev l) (e.ev c) with
   | none => rw [hm] at h; cases h
   | some q =>
   obtain ⟨r, ws1⟩ := q
   rw [hm] at h
   simp only [Option.some.injEq] at h
   subst h
   obtain ⟨v', w', G', hr, hI', hle, hv'⟩ := hI.run_make (hdl d rfl) (hI.ev l) (hI.ev c) hm
   refine wp_run (v := v') (w' := w') (by simp [execOp, hr]) (fin (o := ⟨some d, .makeSlice ty l c, type, pos, after, guard⟩) hI' hd hv' ?_)
   simpa [Env.puts_append, oneS] using hK
 | buildSlice ty n parts =>
   simp only [absOp] at h
   cases dst with
   | none => simp at h
   | some d =>
   cases he : elemT P ty with
   | none => rw [he] at h; simp at h
   | some et =>
   obtain ⟨hu, _⟩ := elemT_spec he
   rw [he] at h
   simp only at h
   cases hs : sizeT P et with
   | none => rw [hs] at h; simp at h
   | some esz =>
   cases hz : zeroT P et with
   | none => rw [hs, hz] at h; simp at h
   | some z =>
   rw [hs, hz] at h
   simp only at h
   split at h
   case isFalse => cases h
   rename_i hcond
   obtain ⟨he0, hzl, hlim⟩ := hcond
   cases hf : e.frzAs (parts.toList.map fun p => e.ev p.2) with
   | none => rw [hf] at h; simp at h
   | some q =>
   obtain ⟨as, ws1⟩ := q
   rw [hf] at h
   simp only at h
   cases hl : layParts (fun i => some (i * esz, esz)) (List.replicate n z).flatten ((parts.toList.map (·.1)).zip as) with
   | none => rw [hl] at h; simp at h
   | some cs =>
   rw [hl] at h
   simp only at h
   split at h
   case isFalse => cases h
   rename_i hcl
   obtain ⟨hcl, hcp⟩ := hcl
   cases h
   obtain ⟨i, zv, hi, hiz, rfl, hzr⟩ := zero_val hz
   simp only [List.length_map, Array.length_toList] at hzl
   obtain ⟨G1, l1, I1, S1, n1, R1⟩ := frzAs_sound (parts.toList.map fun p => e.ev p.2) as ws1 G e (fun i => a.eval (parts.toList.getD i (0, .func 0)).2) (Sam.refl e) hI (fun i c hi => by
    rw [List.getElem?_map] at hi
    cases hci : parts.toList[i]? with
    | none => rw [hci] at hi; cases hi
    | some o' =>
      rw [hci] at hi
      simp only [Option.map_some, Option.some.injEq] at hi
      subst hi
      rw [List.getD_eq_getElem?_getD, hci]
      exact hI.ev o'.2) hf
   have hzz : ∀ (k : Nat), k < n * esz → ((List.replicate n (zv.cells.toList.map absV)).flatten)[k]? = some (absV (zv.cells.getD (k % esz) default)) := fun k hk => by
    have : ∀ (m k : Nat), k < m * esz → ((List.replicate m (zv.cells.toList.map absV)).flatten)[k]? = some (absV (zv.cells.getD (k % esz) default)) := by
     intro m
     induction m with
     | zero => intro k hk; omega
     | succ m ih =>
       intro k hk
       rw [Nat.add_mul, Nat.one_mul] at hk
       rw [List.replicate_succ, List.flatten_cons]
       by_cases hk2 : k < esz
       · rw [List.getElem?_append_left (by simp; omega), List.getElem?_map, Nat.mod_eq_of_lt hk2, Array.getElem?_toList, Array.getElem?_eq_getElem (by omega), Array.getD_eq_getD_getElem?, Array.getElem?_eq_getElem (by omega)]
         rfl
       · rw [List.getElem?_append_right (by simp; omega)]
         have e1 : k - (zv.cells.toList.map absV).length = k - esz := by simp [hzl]
         rw [e1, ih (k - esz) (by omega)]
         have e2 : k % esz = (k - esz) % esz := by rw [Nat.mod_eq_sub_mod (by omega)]
         rw [e2]
    exact this n k hk
   have hfl : (List.replicate n (zv.cells.toList.map absV)).flatten.length = n * esz := by
    simp [List.length_flatten, hzl]
   obtain ⟨out, o1, o2, o3⟩ := layParts_sound (G := G1) (w := w) (fun i => some (i * esz, esz)) ((parts.toList.map (·.1)).zip as) (parts.toList.map fun p => (p.1, a.eval p.2)) _
    ((Array.range (n * esz)).map (zv.cells[· % zv.cells.size]!)) cs (by simp [n1])
    (fun i p q hp hq => by
      rw [List.getElem?_zip_eq_some] at hp
      obtain ⟨hp1, hp2⟩ := hp
      rw [List.getElem?_map] at hp1 hq
      cases hci : parts.toList[i]? with
      | none => rw [hci] at hq; cases hq
      | some r =>
        rw [hci] at hp1 hq
        simp only [Option.map_some, Option.some.injEq] at hp1 hq
        subst hq
        refine ⟨hp1, ?_⟩
        have := R1 i p.2 hp2
        rw [List.getD_eq_getElem?_getD, hci] at this
        exact this) (by rw [hfl]; simp) (fun i c v hc hv => by
      have hi : i < n * esz := by have := (List.getElem?_eq_some_iff.1 hc).1; omega
      rw [hzz i hi] at hc
      simp only [Option.some.injEq] at hc
      subst hc
      simp only [Array.getElem?_map, Array.getElem?_range, hi, if_true, Option.map_some, Option.some.injEq] at hv
      subst hv
      rw [hzl]
      have hm : i % esz < zv.cells.size := by rw [hzl]; exact Nat.mod_lt _ he0
      rw [getElem!_pos zv.cells _ hm, Array.getD_eq_getD_getElem?, Array.getElem?_eq_getElem hm]
      exact absV_rel G1 w _) hl
   have hchop := chop_rows n cs hcl
   have hgod : nextVer ((e.puts ws1).go d) = nextVer (e.go d) := by
    rcases S1.o d with h1 | ⟨ver, ty', esz', fz, pu, xs, h1, h2⟩
    · rw [h1]
    · rw [h1, h2]; rfl
   obtain ⟨G', hle, hI', hob, hcnt⟩ := I1.newObj (w' := w.alloc (.cells out et)) d (by rw [Env.puts_olen]; exact hdl d rfl) et esz n (cs.all AV.cellP) (chop esz n cs) out rfl rfl rfl rfl (Nat.le_refl _)
    (fun hp x hx c hc => List.all_eq_true.1 hp c ((hchop x hx).2 c hc)) (fun x hx => (hchop x hx).1) (by rw [chop_len]; exact Nat.le_refl _) (by
      have : n * 1 ≤ n * esz := Nat.mul_le_mul_left _ he0
      simp only [maxLen]; omega) (by rw [o2, hcl])
    (fun i j x b hx hb => by
      have hg := chop_get n cs hcl i j x b hx hb
      have hlt : i * esz + j < out.size := by rw [o2]; exact (List.getElem?_eq_some_iff.1 hg).1
      exact ⟨_, Array.getElem?_eq_getElem hlt, o3 _ b _ hg (Array.getElem?_eq_getElem hlt)⟩)
   rw [hgod] at hI' hob hcnt
   refine wp_run (v := .slice (some ⟨w.heap.size, 0, none⟩) n n) (w' := w.alloc (.cells out et)) ?_ (fin (o := ⟨some d, .buildSlice ty n parts, type, pos, after, guard⟩) (av := .ref d (nextVer (e.go d))) hI' hd ?_ ?_)
   · have hpp : (parts.map fun (p : Nat × Operand) => (p.1, a.eval p.2)).toList = parts.toList.map fun p => (p.1, a.eval p.2) := by simp
     simp only [execOp, Instr.buildSlice, Sem.run_bind, run_underlying hu, Result.andThen_ok, run_sizeOf hs]
     rw [if_neg (by omega)]
     simp only [Sem.run_bind, Sem.run_ite, Sem.run_pure, Result.andThen_ok]
     by_cases hn0 : n = 0
     · subst hn0
       have hr0 : ∀ f : Nat → Value, Array.map f (Array.range (0 * esz)) = #[] := fun f => by
        apply Array.eq_empty_of_size_eq_zero; simp
       rw [hr0] at o1
       rw [if_pos (by simp)]
       simp only [Result.andThen_ok, Sem.run_pure, hpp, hr0, o1, Sem.run_bind, newRow]
       simp
     · rw [if_neg (by
        have : 0 < n * esz := Nat.mul_pos (by omega) he0
        omega), hzr]
       simp only [Result.andThen_ok, hpp, o1, Sem.run_bind, newRow, Sem.run_pure]
       simp
   · refine .ref d _ _ (by rw [hcnt]; exact Nat.le_refl _) rfl (fun g hg _ => ?_)
     rw [hob] at hg; cases hg
     rw [chop_len]
   · simpa [Env.puts, Env.puts_append, oneS] using hK
 | call c =>
   obtain ⟨callee, args, ats⟩ := c
   cases callee with
   | builtin b =>
     have hargs : ∀ (i : Nat) (x : AV), (args.toList.map e.ev)[i]? = some x → ∃ v, (args.map a.eval)[i]? = some v ∧ VRel G w x v := fun i x hx => by
      rw [List.getElem?_map, Array.getElem?_toList] at hx
      cases hq : args[i]? with
      | none => rw [hq] at hx; cases hx
      | some y =>
        rw [hq] at hx
        simp only [Option.map_some, Option.some.injEq] at hx
        subst hx
        exact ⟨_, by rw [Array.getElem?_map, hq]; rfl, hI.ev y⟩
     have hlen : (args.map a.eval).size = (args.toList.map e.ev).length := by simp
     have hat : ats = ats.toList.toArray := by simp
     generalize hA : args.toList.map e.ev = A at h hargs hlen
     generalize hV : args.map a.eval = Vs at hargs hlen
     generalize hT : ats.toList = T at h hat
     subst hat
     simp only [absOp, hA] at h
     have two : ∀ {x y : AV}, A = [x, y] → ∃ v u, Vs = #[v, u] ∧ VRel G w x v ∧ VRel G w y u := fun {x y} hxy => by
      subst hxy
      obtain ⟨v, hv, rv⟩ := hargs 0 x rfl
      obtain ⟨u, hu, ru⟩ := hargs 1 y rfl
      refine ⟨v, u, ?_, rv, ru⟩
      apply Array.ext'
      apply List.ext_getElem?
      intro k
      rw [Array.getElem?_toList]
      match k with
      | 0 => simp [hv]
      | 1 => simp [hu]
      | k + 2 => rw [Array.getElem?_eq_none (by rw [hlen]; simp)]; simp
     have onearg : ∀ {x : AV}, A = [x] → ∃ v, Vs = #[v] ∧ VRel G w x v := fun {x} hxy => by
      subst hxy
      obtain ⟨v, hv, rv⟩ := hargs 0 x rfl
      refine ⟨v, ?_, rv⟩
      apply Array.ext'
      apply List.ext_getElem?
      intro k
      rw [Array.getElem?_toList]
      match k with
      | 0 => simp [hv]
      | k + 1 => rw [Array.getElem?_eq_none (by rw [hlen]; simp)]; simp
     split at h
     · rename_i x t
       obtain ⟨v, rfl, hv⟩ := onearg rfl
       have lens : ∀ {n : Int}, (Builtin.len_ #[t] type #[v]).run P w = .ok (goInt n) w → ws = oneS ⟨dst, .call ⟨.builtin .len, args, [t].toArray⟩, type, pos, after, guard⟩ (.int .i64 n) →
        Oper.wp P ⟨dst, .call ⟨.builtin .len, args, [t].toArray⟩, type, pos, after, guard⟩ a w K Q := fun {n} hr hws => by
        subst hws
        refine wp_run (v := .int .i64 n) (w' := w) ?_ (fin (o := ⟨dst, .call ⟨.builtin .len, args, [t].toArray⟩, type, pos, after, guard⟩) hI hd (.int _ _) hK)
        simp only [execOp, resolve, Sem.run_bind, Sem.run_pure, Result.andThen_ok, invoke, builtin, hV, hr]
        rfl
       split at h
       · rename_i s _
         split at h
         case isFalse => cases h
         rename_i hst
         cases h
         cases hv
         exact lens (by simp [Builtin.len_, run_underlying (isStrT_spec hst)]) rfl
       · rename_i x0 hx0
         cases he : elemT P t with
         | none => rw [he] at h; simp at h
         | some et =>
         obtain ⟨hu, hel⟩ := elemT_spec he
         cases hr0 : e.count x with
         | none => rw [he, hr0] at h; simp at h
         | some nx =>
         rw [he, hr0] at h
         simp only [Option.some.injEq] at h
         have old : ∀ pu xs, e.rows x = some (pu, xs) → (∀ t v k n, x ≠ .win t v k n) → ∃ A c, v = .slice A xs.length c := by
          intro pu xs hr hnw
          cases hv with
          | nils => simp only [Env.rows, Option.some.injEq, Prod.mk.injEq] at hr; obtain ⟨_, rfl⟩ := hr; exact ⟨_, _, rfl⟩
          | emp A => simp only [Env.rows, Option.some.injEq, Prod.mk.injEq] at hr; obtain ⟨_, rfl⟩ := hr; exact ⟨_, _, rfl⟩
          | sl0 A c => simp only [Env.rows, Option.some.injEq, Prod.mk.injEq] at hr; obtain ⟨_, rfl⟩ := hr; exact ⟨_, _, rfl⟩
          | sl ys b o c esz V h1 h2 h3 h4 h5 h6 => simp only [Env.rows, Option.some.injEq, Prod.mk.injEq] at hr; obtain ⟨_, rfl⟩ := hr; exact ⟨_, _, rfl⟩
          | ref tt ver _ hv h1 hvv =>
            simp only [Env.rows] at hr
            cases ho : e.go tt with
            | obj ver' oty esz' fz pu' xs' =>
              rw [ho] at hr
              simp only at hr
              split at hr
              case isFalse => cases hr
              rename_i hver
              subst hver
              simp only [Option.some.injEq, Prod.mk.injEq] at hr
              obtain ⟨rfl, rfl⟩ := hr
              obtain ⟨_, _, _, g, h4, h5, h6, h7, h8⟩ := hI.obj ho
              exact ⟨g.base, g.cap, by rw [hvv g h4 h5, h6]⟩
            | _ => rw [ho] at hr; simp at hr
          | win tt ver k n _ hv h1 hvv => exact absurd rfl (hnw tt ver k n)
          | _ => simp [Env.rows] at hr
         have hs : ∃ A c, v = .slice A nx c := by
          have nw : (∀ t v k n, x ≠ .win t v k n) → (e.rows x).map (·.2.length) = some nx → ∃ A c, v = .slice A nx c := fun hnw hr => by
           cases hrr : e.rows x with
           | none => rw [hrr] at hr; cases hr
           | some q =>
             obtain ⟨pu, xs⟩ := q
             rw [hrr] at hr
             simp only [Option.map_some, Option.some.injEq] at hr
             obtain ⟨A, c, hv⟩ := old pu xs hrr hnw
             exact ⟨A, c, by rw [hv, hr]⟩
          cases x with
          | win tt ver k n =>
            simp only [Env.count] at hr0
            cases hv with
            | win _ _ _ _ _ hv h1 hvv =>
              cases ho : e.go tt with
              | obj ver' oty esz' fz pu' xs' =>
                rw [ho] at hr0
                simp only at hr0
                split at hr0
                case isFalse => cases hr0
                rename_i hver
                subst hver
                cases hr0
                obtain ⟨_, _, _, g, h4, h5, h6, h7, h8⟩ := hI.obj ho
                obtain ⟨A, hA, _⟩ := hvv g h4 h5
                exact ⟨A, _, hA⟩
              | _ => rw [ho] at hr0; simp at hr0
          | _ => exact nw (by simp) hr0
         obtain ⟨B, c, rfl⟩ := hs
         exact lens (n := nx) (run_len_slice w t type B nx c (by rw [hel]; exact hu)) h.symm
     · rename_i x t
       obtain ⟨v, rfl, hv⟩ := onearg rfl
       split at h
       case h_2 => cases h
       rename_i het
       obtain ⟨hu, _⟩ := elemT_spec het
       cases h
       cases hv
       refine wp_run (v := .int .i64 0) (w' := w) ?_ (fin (o := ⟨dst, .call ⟨.builtin .cap, args, [t].toArray⟩, type, pos, after, guard⟩) hI hd (.int _ _) hK)
       simp only [execOp, resolve, Sem.run_bind, Sem.run_pure, Result.andThen_ok, invoke, builtin, hV]
       simp [Builtin.cap_, run_underlying hu, goInt]
     · rename_i x y t t'
       obtain ⟨v, u, rfl, hv, hu⟩ := two rfl
       cases hcp : e.copy P t x y with
       | none => rw [hcp] at h; cases h
       | some q =>
       obtain ⟨r, ws1⟩ := q
       rw [hcp] at h
       simp only [Option.some.injEq] at h
       subst h
       obtain ⟨v', w', G', hr, hI', hle, hv'⟩ := hI.run_copy (t' := t') (ty := type) hv hu hcp
       refine wp_run (v := v') (w' := w') ?_ (fin (o := ⟨dst, .call ⟨.builtin .copy, args, [t, t'].toArray⟩, type, pos, after, guard⟩) hI' hd hv' ?_)
       · simp only [execOp, resolve, Sem.run_bind, Sem.run_pure, Result.andThen_ok, invoke, builtin, hV, hr]
       · simpa only [Env.puts_append] using hK
     · rename_i x t
       obtain ⟨v, rfl, hv⟩ := onearg rfl
       cases hap : e.clear P t x with
       | none => rw [hap] at h; cases h
       | some ws1 =>
       rw [hap] at h
       simp only [Option.map_some, Option.some.injEq] at h
       subst h
       obtain ⟨v', w', G', hr, hI', hle⟩ := hI.run_clear (ty := type) hv hap
       refine wp_run (v := v') (w' := w') ?_ (fin (o := ⟨dst, .call ⟨.builtin .clear, args, [t].toArray⟩, type, pos, after, guard⟩) (av := .any) hI' hd (.any _) ?_)
       · simp only [execOp, resolve, Sem.run_bind, Sem.run_pure, Result.andThen_ok, invoke, builtin, hV, hr]
       · simpa only [Env.puts_append] using hK
     · rename_i x y t t'
       obtain ⟨v, u, rfl, hv, hu⟩ := two rfl
       split at h
       case isFalse =>
        cases dst with
        | none => simp at h
        | some d =>
        simp only at h
        cases hap : e.appendZ P d t t' x y with
        | none => rw [hap] at h; cases h
        | some q =>
        obtain ⟨r, ws1⟩ := q
        rw [hap] at h
        simp only [Option.some.injEq] at h
        subst h
        obtain ⟨v', w', G', hr, hI', hle, hv'⟩ := hI.run_appendZ (ty := type) (hdl d rfl) hv hu hap
        refine wp_run (v := v') (w' := w') ?_ (fin (o := ⟨some d, .call ⟨.builtin .append, args, [t, t'].toArray⟩, type, pos, after, guard⟩) hI' hd hv' ?_)
        · simp only [execOp, resolve, Sem.run_bind, Sem.run_pure, Result.andThen_ok, invoke, builtin, hV, hr]
        · simpa [Env.puts_append, oneS] using hK
       rename_i htt
       subst htt
       cases dst with
       | none => simp at h
       | some d =>
       simp only at h
       cases hap : e.append P d t x y with
       | none => rw [hap] at h; cases h
       | some q =>
       obtain ⟨r, ws1⟩ := q
       rw [hap] at h
       simp only [Option.some.injEq] at h
       subst h
       obtain ⟨v', w', G', hr, hI', hle, hv'⟩ := hI.run_append (ty := type) (hdl d rfl) hv hu hap
       refine wp_run (v := v') (w' := w') ?_ (fin (o := ⟨some d, .call ⟨.builtin .append, args, [t, t].toArray⟩, type, pos, after, guard⟩) hI' hd hv' ?_)
       · simp only [execOp, resolve, Sem.run_bind, Sem.run_pure, Result.andThen_ok, invoke, builtin, hV, hr]
       · simpa [Env.puts_append, oneS] using hK
     · rename_i _ k x k' y
       obtain ⟨v, u, rfl, hv, hu⟩ := two rfl
       split at h
       case isFalse => cases h
       rename_i hk
       subst hk
       cases h
       cases hv
       cases hu
       refine wp_run (v := .int k (if x < y then y else x)) (w' := w) ?_ (fin (o := ⟨dst, .call ⟨.builtin .max, args, T.toArray⟩, type, pos, after, guard⟩) hI hd (.int _ _) hK)
       simp only [execOp, resolve, Sem.run_bind, Sem.run_pure, Result.andThen_ok, invoke, builtin, hV, run_max_int2]
     · rename_i _ k x k' y
       obtain ⟨v, u, rfl, hv, hu⟩ := two rfl
       split at h
       case isFalse => cases h
       rename_i hk
       subst hk
       cases h
       cases hv
       cases hu
       refine wp_run (v := .int k (if y < x then y else x)) (w' := w) ?_ (fin (o := ⟨dst, .call ⟨.builtin .min, args, T.toArray⟩, type, pos, after, guard⟩) hI hd (.int _ _) hK)
       simp only [execOp, resolve, Sem.run_bind, Sem.run_pure, Result.andThen_ok, invoke, builtin, hV, run_min_int2]
     · cases h
   | _ => simp [absOp] at h
 | _ => simp [absOp] at h
end
end Go.Proofs.YtbhgehhmjpipiaaGreatDoor.Ab
