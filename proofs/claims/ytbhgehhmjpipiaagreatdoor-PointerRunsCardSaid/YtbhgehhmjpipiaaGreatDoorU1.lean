/- Chapter 12: the program's closure. -/
import Derived.Test.YtbhgehhmjpipiaaGreatDoorE8b
import Derived.Test.YtbhgehhmjpipiaaGreatDoorE7c
import Derived.Test.YtbhgehhmjpipiaaGreatDoorS7
import Derived.Test.YtbhgehhmjpipiaaGreatDoorP40
import Derived.Test.YtbhgehhmjpipiaaGreatDoorP37f
set_option linter.unusedSimpArgs false
set_option linter.unusedVariables false
namespace Go.Proofs.YtbhgehhmjpipiaaGreatDoor.C12
open Go Go.Proofs Go.Proofs.YtbhgehhmjpipiaaGreatDoor.Ab Go.Proofs.YtbhgehhmjpipiaaGreatDoor.C10
set_option maxRecDepth 100000
attribute [local congr] ite_ctx
theorem Drv.small {c : Case} (h : Right c) {x : Cap} (hx : Drv (cc c) x) : CapSm x := by
 have hJ := h.J
 have hO := h.O
 obtain ⟨h1, h2, h3⟩ := hx.form (cc c) h.cfit.sp
 have ha := hx.auth h.aut
 have e1 : (cc c).J = c.users.length := rfl
 have e2 : (cc c).O = c.sec.objects.length := rfl
 unfold CapSm
 have h3' : x.kind = 0 ∨ x.kind = 1 := by rcases h3 with q | q; exact .inl q.1; exact .inr q.1
 omega
theorem derive_ok {c : Case} (h : Right c) : DOk (cc c) (derive (cc c)) := (derive_done h.cfit).ok
theorem derive_len {c : Case} (h : Right c) : (derive (cc c)).length ≤ 60 := h.cfit.len (derive_ok h)
theorem rClosure_mem {c : Case} (h : Right c) (x : Cap) : x ∈ rClosure (cc c) ↔ x ∈ (derive (cc c)).map Der.cap := by
 have D := derive_done h.cfit
 have R := rClosure_done h.cfit
 exact (closed_same (cc c) (D.closed h.cfit) D.drv (rClosed_of (cc c) R.seed R.stop) R.ok.drv x).symm
def takeC (L : List Der) (i : Nat) : List Cap := (L.take i).map Der.cap
theorem takeC_zero (L : List Der) : takeC L 0 = [] := rfl
theorem takeC_len (L : List Der) (i : Nat) : (takeC L i).length ≤ i := by unfold takeC; rw [List.length_map, List.length_take]; omega
theorem takeC_all {L : List Der} {i : Nat} (h : L.length ≤ i) : takeC L i = L.map Der.cap := by unfold takeC; rw [List.take_of_length_le h]
theorem takeC_succ {L : List Der} {i : Nat} (h : i < L.length) : List.map encCap (takeC L (i + 1)) = List.map encCap (takeC L i) ++ [[.int .i64 (nth L i).cap.job, .int .i64 (nth L i).cap.object, .int .i64 (nth L i).cap.kind, .int .i64 (nth L i).cap.auth]] := by
 unfold takeC
 rw [List.take_add_one, List.map_append, List.map_append, List.getElem?_eq_getElem h, nth_eq h]; rfl
set_option maxHeartbeats 8000000 in
theorem Closure_good {c : Case} (h : Right c) (he : (caseE c).2 = 0) : Ans Tryz.prog 18 [.agg (encCase c)] (.tup [.sl ((rClosure (cc c)).map encCap), .int .i64 0]) := by
 have hE := caseErr_good c h.fit (by have := h.J; omega)
 rw [he] at hE
 have hD := derive_good c h
 have hl := derive_len h
 have hok := derive_ok h
 obtain ⟨m, hm, hm1, hm2, hm3, hm4⟩ := ordered_all ((derive (cc c)).map Der.cap) (fun x hx => by
  obtain ⟨y, hy, rfl⟩ := List.mem_map.1 hx
  exact (hok.drv (cc c) y hy).1.small h) (by rw [List.length_map]; omega) (hok.nodup)
 have hmR : m = rClosure (cc c) := by rw [← hm3]; exact closure_same h.cfit hm1 hm2
 rw [hmR] at hm
 generalize derive (cc c) = L at hD hl hm
 refine good_run [(6, [7, 17, 18, 19, 20, 21, 22, 23, 24, 25], [23, 7, 1504053024])] mixed Tryz.func18 rfl Tryz.ntmps18 (rs := [.tmp 2, .tmp 3]) rfl (by decide +kernel) (by kernel_rfl) rfl ?_
 rw [startE_eq 28 _ _ _ rfl rfl]
 simp only [go_sem, seval]
 refine call_of (hE) ?_
 simp only [go_sem, seval]
 refine call_of (hD) ?_
 simp only [go_sem, seval]
 refine loop_by ([7, 17, 18, 19, 20, 21, 22, 23, 24, 25], [23, 7, 1504053024]) (fun i : Nat => [(.s 16, .int .i64 (i : Int)), (.s 5, .ref 24 (i + 1)), (.o 24, .obj (i + 1) 53 4 false true ((takeC L i).map encCap)), (.o 23, deadV i), (.o 7, deadV i)]) (fun i => L.length - i) (fun i => i ≤ L.length) 0 rfl (Nat.zero_le _) ?_ ?_
 · simp only [go_sem, seval, takeC_zero, List.map_nil]
 rintro c' st' hst i hi ih
 simp only [go_sem, seval]
 refine ifI (fun hlt => ?_) fun hlt => ?_
 · have hlt' : i < L.length := by omega
   have hk := takeC_len L i
   have b1 : ((takeC L i).length + 1) * 32 ≤ 140737488355328 := by omega
   have b2 : (takeC L i).length + 1 ≤ maxLen := by unfold maxLen; omega
   have hst := takeC_succ hlt'
   simp only [go_sem, seval, hlt, hlt', b1, b2]
   refine ih (i + 1) _ (by omega) (by omega) ?_
   simp only [go_sem, seval, wrap_succ (show i < 9223372036854775807 by omega), hst]
 · subst hst
   rw [← takeC_all (show L.length ≤ i by omega)] at hm
   simp only [go_sem, seval, hlt]
   refine call_of (hm) ?_
   simp only [go_sem, seval]
set_option maxRecDepth 100000
inductive W3 where
 | a
 | b
 | d
structure Wn where
 w : W3
 n0 : Nat
 n1 : Nat
 n2 : Nat
def refW (w : W3) (n0 n1 n2 : Nat) : AV := match w with
 | .a => .ref 63 (n0 + 1)
 | .b => .ref 74 n1
 | .d => .ref 52 n2
def rowA (w : W3) (n0 : Nat) (xs : List (List AV)) : AV := match w with
 | .a => .obj (n0 + 1) 66 8 false true xs
 | _ => .dead (n0 + 1)
def rowB (w : W3) (n1 : Nat) (xs : List (List AV)) : AV := match w with
 | .b => .obj n1 66 8 false true xs
 | _ => deadV n1
def rowD (w : W3) (n2 : Nat) (xs : List (List AV)) : AV := match w with
 | .d => .obj n2 66 8 false true xs
 | _ => deadV n2
theorem refW_a (n0 n1 n2) : refW .a n0 n1 n2 = .ref 63 (n0 + 1) := rfl
theorem refW_b (n0 n1 n2) : refW .b n0 n1 n2 = .ref 74 n1 := rfl
theorem refW_d (n0 n1 n2) : refW .d n0 n1 n2 = .ref 52 n2 := rfl
theorem rowA_a (n xs) : rowA .a n xs = .obj (n + 1) 66 8 false true xs := rfl
theorem rowA_b (n xs) : rowA .b n xs = .dead (n + 1) := rfl
theorem rowA_d (n xs) : rowA .d n xs = .dead (n + 1) := rfl
theorem rowB_a (n xs) : rowB .a n xs = deadV n := rfl
theorem rowB_b (n xs) : rowB .b n xs = .obj n 66 8 false true xs := rfl
theorem rowB_d (n xs) : rowB .d n xs = deadV n := rfl
theorem rowD_a (n xs) : rowD .a n xs = deadV n := rfl
theorem rowD_b (n xs) : rowD .b n xs = deadV n := rfl
theorem rowD_d (n xs) : rowD .d n xs = .obj n 66 8 false true xs := rfl
attribute [local go_sem] refW_a refW_b refW_d rowA_a rowA_b rowA_d rowB_a rowB_b rowB_d rowD_a rowD_b rowD_d
def WOk (z : Wn) : Prop := match z.w with
 | .a => True
 | .b => 0 < z.n1
 | .d => 0 < z.n2
theorem deadV_pos {n : Nat} (h : 0 < n) : deadV n = .dead n := by
 obtain ⟨k, rfl⟩ : ∃ k, n = k + 1 := ⟨n - 1, by omega⟩
 rfl
theorem ops_zero (L : List Der) : opsN L 0 = [] := rfl
theorem ops_r {L : List Der} {i : Nat} {d : Der} (hd : nth L i = d) (h : d.kind = 0) : List.map encCOp (opsN L (i + 1)) = List.map encCOp (opsN L i) ++ [[.int .i64 0, .int .i64 d.cap.job, .int .i64 0, .int .i64 (i : Int), .int .i64 0, .int .i64 d.cap.object, .int .i64 0, .str ⟨#[]⟩]] := by
 have hd' : L.getD i default = d := hd
 rw [opsN, hd', List.map_append, wOps, if_pos h]; rfl
theorem ops_a {L : List Der} {i : Nat} {d : Der} (hd : nth L i = d) (h0 : ¬ d.kind = 0) (h : d.kind = 1) : List.map encCOp (opsN L (i + 1)) = List.map encCOp (opsN L i) ++ [[.int .i64 5, .int .i64 d.cap.job, .int .i64 d.source, .int .i64 (i : Int), .int .i64 0, .int .i64 0, .int .i64 0, .str ⟨#[]⟩]] := by
 have hd' : L.getD i default = d := hd
 rw [opsN, hd', List.map_append, wOps, if_neg h0, if_pos h]; rfl
theorem ops_s {L : List Der} {i : Nat} {d : Der} (hd : nth L i = d) (h0 : ¬ d.kind = 0) (h : ¬ d.kind = 1) : List.map encCOp (opsN L (i + 1)) = List.map encCOp (opsN L i) ++ [[.int .i64 6, .int .i64 (nth L d.source.toNat).cap.job, .int .i64 d.source, .int .i64 (i : Int), .int .i64 d.writer, .int .i64 0, .int .i64 0, .str ⟨#[]⟩], [.int .i64 7, .int .i64 d.cap.job, .int .i64 (i : Int), .int .i64 (i : Int), .int .i64 d.reader, .int .i64 0, .int .i64 0, .str ⟨#[]⟩]] := by
 have hd' : L.getD i default = d := hd
 rw [opsN, hd', List.map_append, wOps, if_neg h0, if_neg h]; rfl
theorem ops_bounds {L : List Der} {i : Nat} (h : i ≤ 60) : ((opsN L i).length + 1) * 72 ≤ 140737488355328 ∧ (opsN L i).length + 1 ≤ maxLen ∧ ((opsN L i).length + 2) * 72 ≤ 140737488355328 ∧ (opsN L i).length + 2 ≤ maxLen := by
 have := opsN_len L i
 unfold maxLen
 omega
def wIx (L : List Der) (x : Cap) : Int := findIx (fun y : Der => decide (y.cap = x)) L 0
set_option maxHeartbeats 16000000 in
theorem Witness_good {c : Case} (h : Right c) (he : (caseE c).2 = 0) (x : Cap) : Ans Tryz.prog 23 [.agg (encCase c), .agg (encCap x)] (if 0 ≤ wIx (derive (cc c)) x then .tup [.sl ((opsN (derive (cc c)) ((wIx (derive (cc c)) x).toNat + 1)).map encCOp), .int .i64 0] else .tup [.nils, .int .i64 40]) := by
 have hE := caseErr_good c h.fit (by have := h.J; omega)
 rw [he] at hE
 have hD := derive_good c h
 have hl := derive_len h
 have hok := derive_ok h
 generalize derive (cc c) = L at hD hl hok
 have hsrc : ∀ i, i < L.length → ¬ (nth L i).kind = 0 → 0 ≤ (nth L i).source ∧ (nth L i).source < (L.length : Int) := fun i hi hk => by
  have hP := hok.proved i hi
  have e : L.getD i default = nth L i := rfl
  rw [e] at hP
  rcases hP.how with q | ⟨_, _, _, _, _, y, q1, q2, _⟩ | ⟨_, y, w, r, q1, _, _, q2, _⟩
  · exact absurd q.1 hk
  · have := (getD_take q2).1; omega
  · have := (getD_take q2).1; omega
 generalize hix : wIx L x = ix
 have hF0 : ix = findIx (fun y : Der => decide (y.cap = x)) (L.drop 0) 0 := hix.symm
 obtain ⟨R, hR⟩ : ∃ R, (if 0 ≤ ix then AV.tup [.sl ((opsN L (ix.toNat + 1)).map encCOp), .int .i64 0] else .tup [.nils, .int .i64 40]) = R := ⟨_, rfl⟩
 have hpR : R.pureR = true := by rw [← hR]; split <;> rfl
 rw [hR]
 refine good_run [(7, [4, 5, 9, 10, 11, 22, 23, 24, 25, 26, 27, 28, 29, 30, 31, 32, 33, 34, 35, 36, 37, 38, 39, 40, 41, 42, 43, 44, 45, 46, 47, 48, 49, 50, 51, 52, 53, 54, 55, 56, 57, 58, 59, 60, 61, 62, 63, 64, 65, 66, 67, 68, 69, 70, 71, 72, 73, 74, 75, 76, 77, 78, 79], [10, 11, 62, 73, 51, 1708066063])] mixed Tryz.func23 rfl Tryz.ntmps23 (rs := [.tmp 4, .tmp 5]) rfl (by decide +kernel) (by kernel_rfl) (hpR) ?_
 rw [startE_eq 80 _ _ _ rfl rfl]
 simp only [go_sem, seval]
 refine call_of (hE) ?_
 simp only [go_sem, seval]
 refine call_of (hD) ?_
 simp only [go_sem, seval]
 refine loop_by ([4, 5, 9, 10, 11, 22, 23, 24, 25, 26, 27, 28, 29, 30, 31, 32, 33, 34, 35, 36, 37, 38, 39, 40, 41, 42, 43, 44, 45, 46, 47, 48, 49, 50, 51, 52, 53, 54, 55, 56, 57, 58, 59, 60, 61, 62, 63, 64, 65, 66, 67, 68, 69, 70, 71, 72, 73, 74, 75, 76, 77, 78, 79], [10, 11, 62, 73, 51, 1708066063]) (fun z : Nat × Wn => [(.s 21, .int .i64 (z.1 : Int)), (.s 7, refW z.2.w z.2.n0 z.2.n1 z.2.n2), (.o 63, rowA z.2.w z.2.n0 ((opsN L z.1).map encCOp)), (.o 74, rowB z.2.w z.2.n1 ((opsN L z.1).map encCOp)), (.o 52, rowD z.2.w z.2.n2 ((opsN L z.1).map encCOp)), (.o 10, deadV z.1), (.o 11, deadV z.1), (.o 62, deadV z.2.n0), (.o 73, deadV z.2.n1), (.o 51, deadV z.2.n2)]) (fun z => L.length - z.1)
  (fun z => z.1 ≤ L.length ∧ WOk z.2 ∧ ix = findIx (fun y : Der => decide (y.cap = x)) (L.drop z.1) z.1) (0, ⟨.a, 0, 0, 0⟩) rfl ⟨Nat.zero_le _, trivial, hF0⟩ ?_ ?_
 · simp only [go_sem, seval, ops_zero, List.map_nil]
 rintro c' st' hst ⟨i, ⟨w, n0, n1, n2⟩⟩ ⟨hi, hw, hf⟩ ih
 simp only at hi hf ih ⊢
 cases w with
 | a =>
   simp only [go_sem, seval]
   refine ifI (fun hlt => ?_) fun hlt => ?_
   case refine_2 =>
    subst hst
    have : ix = -1 := by rw [hf, List.drop_eq_nil_of_le (by omega)]; rfl
    rw [if_neg (by omega)] at hR
    subst hR
    simp only [go_sem, seval, hlt]
   have hlt' : i < L.length := by omega
   have hdr := drop_nth hlt'
   have hs := hsrc i hlt'
   generalize hd : nth L i = d at hdr hs
   have bb := ops_bounds (L := L) (show i ≤ 60 by omega)
   obtain ⟨b1, b2, b3, b4⟩ := bb
   have heq := cap_eqB d.cap x
   have hgo : d.cap = x → ix = (i : Int) := fun e => by rw [hf, hdr, findIx, if_pos (decide_eq_true e)]
   have hnx : ¬ d.cap = x → ix = findIx (fun y : Der => decide (y.cap = x)) (L.drop (i + 1)) (i + 1) := fun e => by rw [hf, hdr, findIx, if_neg (by rw [decide_eq_false e]; decide)]
   have hfin : d.cap = x → R = .tup [.sl ((opsN L (i + 1)).map encCOp), .int .i64 0] := fun e => by
    rw [← hR, hgo e, if_pos (by omega), Int.toNat_natCast]
   simp only [go_sem, seval, hlt, hlt', hd, heq]
   refine Classical.byCases (fun k0 : d.kind = 0 => ?_) fun k0 => ?_
   · have k0t := eq_true k0
     have hop := ops_r hd k0
     simp only [go_sem, seval, k0t, decide_true, b1, b2, heq]
     refine Classical.byCases (fun he2 : d.cap = x => ?_) fun he2 => ?_
     · have het := eq_true he2
       have hRf := hfin he2
       simp only [go_sem, seval, het, decide_true]
       rw [hRf, hop]
       try exact ⟨rfl, rfl⟩
     · have het := eq_false he2
       have hwn : WOk ⟨.a, n0 + 1, n1, n2⟩ := trivial
       simp only [go_sem, seval, het, decide_false]
       refine ih (i + 1, ⟨.a, n0 + 1, n1, n2⟩) _ ⟨by simp only; omega, hwn, hnx he2⟩ (by simp only; omega) ?_
       simp only [go_sem, seval, wrap_succ (show i < 9223372036854775807 by omega), hop]
   have k0t := eq_false k0
   refine Classical.byCases (fun k1 : d.kind = 1 => ?_) fun k1 => ?_
   · have k1t := eq_true k1
     have hop := ops_a hd k0 k1
     simp only [go_sem, seval, k0t, k1t, decide_true, decide_false, b1, b2, heq]
     refine Classical.byCases (fun he2 : d.cap = x => ?_) fun he2 => ?_
     · have het := eq_true he2
       have hRf := hfin he2
       simp only [go_sem, seval, het, decide_true]
       rw [hRf, hop]
       try exact ⟨rfl, rfl⟩
     · have het := eq_false he2
       have hwn : WOk ⟨.b, n0, n1 + 1, n2⟩ := Nat.succ_pos _
       simp only [go_sem, seval, het, decide_false]
       refine ih (i + 1, ⟨.b, n0, n1 + 1, n2⟩) _ ⟨by simp only; omega, hwn, hnx he2⟩ (by simp only; omega) ?_
       simp only [go_sem, seval, wrap_succ (show i < 9223372036854775807 by omega), hop]
   have k1t := eq_false k1
   have hop := ops_s hd k0 k1
   have s1 := (hs k0).1
   have s2 := (hs k0).2
   have s3 : d.source.toNat < L.length := by omega
   simp only [go_sem, seval, k0t, k1t, decide_false, b1, b2, b3, b4, s1, s2, s3, heq]
   refine ⟨by decide +kernel, ?_⟩
   refine Classical.byCases (fun he2 : d.cap = x => ?_) fun he2 => ?_
   · have het := eq_true he2
     have hRf := hfin he2
     simp only [go_sem, seval, het, decide_true]
     rw [hRf, hop]
     try exact ⟨rfl, rfl⟩
   · have het := eq_false he2
     have hwn : WOk ⟨.d, n0, n1, n2 + 1⟩ := Nat.succ_pos _
     simp only [go_sem, seval, het, decide_false]
     refine ih (i + 1, ⟨.d, n0, n1, n2 + 1⟩) _ ⟨by simp only; omega, hwn, hnx he2⟩ (by simp only; omega) ?_
     simp only [go_sem, seval, wrap_succ (show i < 9223372036854775807 by omega), hop]
 | b =>
   have hdv : deadV n1 = .dead n1 := deadV_pos hw
   simp only [go_sem, seval]
   refine ifI (fun hlt => ?_) fun hlt => ?_
   case refine_2 =>
    subst hst
    have : ix = -1 := by rw [hf, List.drop_eq_nil_of_le (by omega)]; rfl
    rw [if_neg (by omega)] at hR
    subst hR
    simp only [go_sem, seval, hlt]
   have hlt' : i < L.length := by omega
   have hdr := drop_nth hlt'
   have hs := hsrc i hlt'
   generalize hd : nth L i = d at hdr hs
   have bb := ops_bounds (L := L) (show i ≤ 60 by omega)
   obtain ⟨b1, b2, b3, b4⟩ := bb
   have heq := cap_eqB d.cap x
   have hgo : d.cap = x → ix = (i : Int) := fun e => by rw [hf, hdr, findIx, if_pos (decide_eq_true e)]
   have hnx : ¬ d.cap = x → ix = findIx (fun y : Der => decide (y.cap = x)) (L.drop (i + 1)) (i + 1) := fun e => by rw [hf, hdr, findIx, if_neg (by rw [decide_eq_false e]; decide)]
   have hfin : d.cap = x → R = .tup [.sl ((opsN L (i + 1)).map encCOp), .int .i64 0] := fun e => by
    rw [← hR, hgo e, if_pos (by omega), Int.toNat_natCast]
   simp only [go_sem, seval, hlt, hlt', hd, heq]
   refine Classical.byCases (fun k0 : d.kind = 0 => ?_) fun k0 => ?_
   · have k0t := eq_true k0
     have hop := ops_r hd k0
     simp only [go_sem, seval, k0t, decide_true, b1, b2, heq]
     refine Classical.byCases (fun he2 : d.cap = x => ?_) fun he2 => ?_
     · have het := eq_true he2
       have hRf := hfin he2
       simp only [go_sem, seval, het, decide_true]
       rw [hRf, hop]
       try exact ⟨rfl, rfl⟩
     · have het := eq_false he2
       have hwn : WOk ⟨.a, n0 + 1, n1, n2⟩ := trivial
       simp only [go_sem, seval, het, decide_false]
       refine ih (i + 1, ⟨.a, n0 + 1, n1, n2⟩) _ ⟨by simp only; omega, hwn, hnx he2⟩ (by simp only; omega) ?_
       simp only [go_sem, seval, wrap_succ (show i < 9223372036854775807 by omega), hop, hdv]
   have k0t := eq_false k0
   refine Classical.byCases (fun k1 : d.kind = 1 => ?_) fun k1 => ?_
   · have k1t := eq_true k1
     have hop := ops_a hd k0 k1
     simp only [go_sem, seval, k0t, k1t, decide_true, decide_false, b1, b2, heq]
     refine Classical.byCases (fun he2 : d.cap = x => ?_) fun he2 => ?_
     · have het := eq_true he2
       have hRf := hfin he2
       simp only [go_sem, seval, het, decide_true]
       rw [hRf, hop]
       try exact ⟨rfl, rfl⟩
     · have het := eq_false he2
       have hwn : WOk ⟨.b, n0, n1 + 1, n2⟩ := Nat.succ_pos _
       simp only [go_sem, seval, het, decide_false]
       refine ih (i + 1, ⟨.b, n0, n1 + 1, n2⟩) _ ⟨by simp only; omega, hwn, hnx he2⟩ (by simp only; omega) ?_
       simp only [go_sem, seval, wrap_succ (show i < 9223372036854775807 by omega), hop, hdv]
   have k1t := eq_false k1
   have hop := ops_s hd k0 k1
   have s1 := (hs k0).1
   have s2 := (hs k0).2
   have s3 : d.source.toNat < L.length := by omega
   simp only [go_sem, seval, k0t, k1t, decide_false, b1, b2, b3, b4, s1, s2, s3, heq]
   refine ⟨by decide +kernel, ?_⟩
   refine Classical.byCases (fun he2 : d.cap = x => ?_) fun he2 => ?_
   · have het := eq_true he2
     have hRf := hfin he2
     simp only [go_sem, seval, het, decide_true]
     rw [hRf, hop]
     try exact ⟨rfl, rfl⟩
   · have het := eq_false he2
     have hwn : WOk ⟨.d, n0, n1, n2 + 1⟩ := Nat.succ_pos _
     simp only [go_sem, seval, het, decide_false]
     refine ih (i + 1, ⟨.d, n0, n1, n2 + 1⟩) _ ⟨by simp only; omega, hwn, hnx he2⟩ (by simp only; omega) ?_
     simp only [go_sem, seval, wrap_succ (show i < 9223372036854775807 by omega), hop, hdv]
 | d =>
   have hdv : deadV n2 = .dead n2 := deadV_pos hw
   simp only [go_sem, seval]
   refine ifI (fun hlt => ?_) fun hlt => ?_
   case refine_2 =>
    subst hst
    have : ix = -1 := by rw [hf, List.drop_eq_nil_of_le (by omega)]; rfl
    rw [if_neg (by omega)] at hR
    subst hR
    simp only [go_sem, seval, hlt]
   have hlt' : i < L.length := by omega
   have hdr := drop_nth hlt'
   have hs := hsrc i hlt'
   generalize hd : nth L i = d at hdr hs
   have bb := ops_bounds (L := L) (show i ≤ 60 by omega)
   obtain ⟨b1, b2, b3, b4⟩ := bb
   have heq := cap_eqB d.cap x
   have hgo : d.cap = x → ix = (i : Int) := fun e => by rw [hf, hdr, findIx, if_pos (decide_eq_true e)]
   have hnx : ¬ d.cap = x → ix = findIx (fun y : Der => decide (y.cap = x)) (L.drop (i + 1)) (i + 1) := fun e => by rw [hf, hdr, findIx, if_neg (by rw [decide_eq_false e]; decide)]
   have hfin : d.cap = x → R = .tup [.sl ((opsN L (i + 1)).map encCOp), .int .i64 0] := fun e => by
    rw [← hR, hgo e, if_pos (by omega), Int.toNat_natCast]
   simp only [go_sem, seval, hlt, hlt', hd, heq]
   refine Classical.byCases (fun k0 : d.kind = 0 => ?_) fun k0 => ?_
   · have k0t := eq_true k0
     have hop := ops_r hd k0
     simp only [go_sem, seval, k0t, decide_true, b1, b2, heq]
     refine Classical.byCases (fun he2 : d.cap = x => ?_) fun he2 => ?_
     · have het := eq_true he2
       have hRf := hfin he2
       simp only [go_sem, seval, het, decide_true]
       rw [hRf, hop]
       try exact ⟨rfl, rfl⟩
     · have het := eq_false he2
       have hwn : WOk ⟨.a, n0 + 1, n1, n2⟩ := trivial
       simp only [go_sem, seval, het, decide_false]
       refine ih (i + 1, ⟨.a, n0 + 1, n1, n2⟩) _ ⟨by simp only; omega, hwn, hnx he2⟩ (by simp only; omega) ?_
       simp only [go_sem, seval, wrap_succ (show i < 9223372036854775807 by omega), hop, hdv]
   have k0t := eq_false k0
   refine Classical.byCases (fun k1 : d.kind = 1 => ?_) fun k1 => ?_
   · have k1t := eq_true k1
     have hop := ops_a hd k0 k1
     simp only [go_sem, seval, k0t, k1t, decide_true, decide_false, b1, b2, heq]
     refine Classical.byCases (fun he2 : d.cap = x => ?_) fun he2 => ?_
     · have het := eq_true he2
       have hRf := hfin he2
       simp only [go_sem, seval, het, decide_true]
       rw [hRf, hop]
       try exact ⟨rfl, rfl⟩
     · have het := eq_false he2
       have hwn : WOk ⟨.b, n0, n1 + 1, n2⟩ := Nat.succ_pos _
       simp only [go_sem, seval, het, decide_false]
       refine ih (i + 1, ⟨.b, n0, n1 + 1, n2⟩) _ ⟨by simp only; omega, hwn, hnx he2⟩ (by simp only; omega) ?_
       simp only [go_sem, seval, wrap_succ (show i < 9223372036854775807 by omega), hop, hdv]
   have k1t := eq_false k1
   have hop := ops_s hd k0 k1
   have s1 := (hs k0).1
   have s2 := (hs k0).2
   have s3 : d.source.toNat < L.length := by omega
   simp only [go_sem, seval, k0t, k1t, decide_false, b1, b2, b3, b4, s1, s2, s3, heq]
   refine ⟨by decide +kernel, ?_⟩
   refine Classical.byCases (fun he2 : d.cap = x => ?_) fun he2 => ?_
   · have het := eq_true he2
     have hRf := hfin he2
     simp only [go_sem, seval, het, decide_true]
     rw [hRf, hop]
     try exact ⟨rfl, rfl⟩
   · have het := eq_false he2
     have hwn : WOk ⟨.d, n0, n1, n2 + 1⟩ := Nat.succ_pos _
     simp only [go_sem, seval, het, decide_false]
     refine ih (i + 1, ⟨.d, n0, n1, n2 + 1⟩) _ ⟨by simp only; omega, hwn, hnx he2⟩ (by simp only; omega) ?_
     simp only [go_sem, seval, wrap_succ (show i < 9223372036854775807 by omega), hop, hdv]
set_option maxRecDepth 100000
def bANN : ByteArray := ⟨#[65, 78, 78]⟩
def bBOB : ByteArray := ⟨#[66, 79, 66]⟩
def bOWN : ByteArray := ⟨#[79, 87, 78]⟩
def bAPP : ByteArray := ⟨#[65, 80, 80]⟩
def Two12 : Case := ⟨⟨[⟨bANN, [], 0⟩, ⟨bBOB, [], 0⟩, ⟨bOWN, [], 0⟩], [], [⟨⟨bAPP, ⟨#[70]⟩, 4⟩, bOWN, [⟨bANN, 1023⟩], ⟨#[]⟩, 0, false⟩, ⟨⟨bAPP, ⟨#[83]⟩, 20⟩, bOWN, [⟨bANN, 160⟩, ⟨bBOB, 32⟩], ⟨#[]⟩, 0, false⟩]⟩, [bANN, bBOB]⟩
def twoRaw : AV := .agg [.sl [[.str bANN, .nils, .int .i64 0], [.str bBOB, .nils, .int .i64 0], [.str bOWN, .nils, .int .i64 0]], .nils,
 .sl [[.str bAPP, .str ⟨#[70]⟩, .int .i64 4, .str bOWN, .sl [[.str bANN, .int .i64 1023]], .str ⟨#[]⟩, .int .i64 0, .bool false], [.str bAPP, .str ⟨#[83]⟩, .int .i64 20, .str bOWN, .sl [[.str bANN, .int .i64 160], [.str bBOB, .int .i64 32]], .str ⟨#[]⟩, .int .i64 0, .bool false]], .sl [[.str bANN], [.str bBOB]]]
theorem le_prof (a : ByteArray) : CellsLe [.str a, .nils, .int .i64 0] [.str a, .sl [], .int .i64 0] := .cons (.refl _) (.cons .nils (.refl _))
theorem two_le : AVle twoRaw (.agg (encCase Two12)) :=
 .agg' (.cons (.sl' (.cons (le_prof _) (.cons (le_prof _) (.cons (le_prof _) .nil)))) (.cons .nils (.refl _)))
theorem Two_good : Ans Tryz.prog 30 [] (.agg (encCase Two12)) := by
 refine Ans.le (r := twoRaw) ?_ two_le rfl
 unfold twoRaw bANN bBOB bOWN bAPP
 refine good_run [] mixed Tryz.func30 rfl Tryz.ntmps30 (rs := [.cell 0 29]) rfl (by decide +kernel) (by kernel_rfl) rfl ?_
 rw [startE_eq 18 _ _ _ rfl rfl]
 simp only [go_sem, seval]
theorem two_few : few12 Two12 = true := by decide +kernel
theorem two_err : (caseE Two12).2 = 0 := by decide +kernel
theorem two_right : Right Two12 := right_of (few12_fit two_few).1 two_err
theorem two_drv : Drv (cc Two12) ⟨1, 0, 1, 1023⟩ := by
 have a0 : auI Two12 0 0 = 1023 := by decide +kernel
 have a1 : auI Two12 0 1 = 160 := by decide +kernel
 have a2 : auI Two12 1 1 = 32 := by decide +kernel
 have hJ : (cc Two12).J = 2 := rfl
 have hO : (cc Two12).O = 2 := rfl
 have x := Drv.seed (C := cc Two12) 0 0 (by rw [hJ]; decide) (by rw [hO]; decide) (by rw [show (cc Two12).au 0 0 = 1023 from a0]; decide)
 have w := Drv.seed (C := cc Two12) 0 1 (by rw [hJ]; decide) (by rw [hO]; decide) (by rw [show (cc Two12).au 0 1 = 160 from a1]; decide)
 have r := Drv.seed (C := cc Two12) 1 1 (by rw [hJ]; decide) (by rw [hO]; decide) (by rw [show (cc Two12).au 1 1 = 32 from a2]; decide)
 rw [show (cc Two12).au 0 0 = 1023 from a0] at x
 rw [show (cc Two12).au 0 1 = 160 from a1] at w
 rw [show (cc Two12).au 1 1 = 32 from a2] at r
 exact Drv.pass _ _ _ 1 (by rw [hJ]; decide) x w r rfl rfl (by decide) rfl (by decide +kernel) (by decide +kernel)
theorem two_in : (⟨1, 0, 1, 1023⟩ : Cap) ∈ rClosure (cc Two12) := by
 have R := rClosure_done two_right.cfit
 exact (rClosed_of (cc Two12) R.seed R.stop).all (cc Two12) two_drv
theorem wIx_mem {L : List Der} {x : Cap} (h : x ∈ L.map Der.cap) : 0 ≤ wIx L x ∧ (wIx L x).toNat < L.length ∧ (nth L (wIx L x).toNat).cap = x := by
 have hany := findIx_any (fun y : Der => decide (y.cap = x)) L 0
 have ha : L.any (fun y : Der => decide (y.cap = x)) = true := by
  obtain ⟨y, hy, e⟩ := List.mem_map.1 h
  exact List.any_eq_true.2 ⟨y, hy, decide_eq_true e⟩
 rw [ha] at hany
 have h0 : 0 ≤ wIx L x := by unfold wIx; simpa using hany
 refine ⟨h0, ?_⟩
 have key : ∀ (l : List Der) (i : Nat), 0 ≤ findIx (fun y : Der => decide (y.cap = x)) l i → ∃ k, k < l.length ∧ findIx (fun y : Der => decide (y.cap = x)) l i = ((i + k : Nat) : Int) ∧ (nth l k).cap = x := by
  intro l
  induction l with
  | nil => intro i hi; unfold findIx at hi; omega
  | cons y l ih =>
    intro i hi
    unfold findIx at hi ⊢
    by_cases q : y.cap = x
    · rw [if_pos (decide_eq_true q)]; exact ⟨0, by simp, by simp, q⟩
    · rw [if_neg (by rw [decide_eq_false q]; decide)] at hi ⊢
      obtain ⟨k, k1, k2, k3⟩ := ih (i + 1) hi
      exact ⟨k + 1, by simpa using k1, by rw [k2]; congr 1; omega, k3⟩
 obtain ⟨k, k1, k2, k3⟩ := key L 0 h0
 have e : (wIx L x).toNat = k := by unfold wIx; rw [k2]; simp
 rw [e]; exact ⟨k1, k3⟩
theorem opsN_pos (L : List Der) (n : Nat) : 0 < (opsN L (n + 1)).length := by
 unfold opsN wOps
 rw [List.length_append]
 split
 · simp
 · split <;> simp
set_option maxHeartbeats 4000000 in
theorem awake_good : Ans Tryz.prog 8 [] (.bool true) := by
 have hC := Closure_good two_right two_err
 have hW := Witness_good two_right two_err ⟨1, 0, 1, 1023⟩
 have hm := two_in
 have hH := Has_good (rClosure (cc Two12)) ⟨1, 0, 1, 1023⟩ (by have := two_right.cfit.rlen (rClosure_done two_right.cfit).ok; omega)
 rw [decide_eq_true hm] at hH
 have hx := wIx_mem ((rClosure_mem two_right _).1 hm)
 rw [if_pos hx.1] at hW
 have hp := opsN_pos (derive (cc Two12)) (wIx (derive (cc Two12)) ⟨1, 0, 1, 1023⟩).toNat
 generalize opsN (derive (cc Two12)) ((wIx (derive (cc Two12)) ⟨1, 0, 1, 1023⟩).toNat + 1) = ops at hW hp
 generalize rClosure (cc Two12) = R at hC hH
 have hpt : ((ops.length : Int) > 0) = True := eq_true (by omega)
 have hT := Two_good
 generalize Two12 = T at hC hW hT
 replace hW : Ans Tryz.prog 23 [.agg (encCase T), .agg [.int .i64 1, .int .i64 0, .int .i64 1, .int .i64 1023]] (.tup [.sl (ops.map encCOp), .int .i64 0]) := hW
 replace hH : Ans Tryz.prog 24 [.sl (R.map encCap), .agg [.int .i64 1, .int .i64 0, .int .i64 1, .int .i64 1023]] (.bool true) := hH
 refine good_run [] mixed Tryz.func8 rfl Tryz.ntmps8 (rs := [.tmp 0]) rfl (by decide +kernel) (by kernel_rfl) rfl ?_
 rw [startE_eq 34 _ _ _ rfl rfl]
 simp only [go_sem, seval]
 refine call_of (hT) ?_
 simp only [go_sem, seval]
 refine call_of (hC) ?_
 simp only [go_sem, seval]
 refine callD_of (hT) ?_
 simp only [go_sem, seval]
 refine callD_of (hW) ?_
 simp only [go_sem, seval]
 refine ⟨by decide +kernel, ?_⟩
 refine call_of (hH) ?_
 simp only [go_sem, seval, hpt, decide_true]
set_option maxRecDepth 100000
theorem few_small {s : St} (h : fewS s = true) : SmallSt s := by
 unfold fewS at h
 rw [Bool.and_eq_true] at h
 obtain ⟨j1, j2⟩ := fewStB_fit h.1
 obtain ⟨p1, p2⟩ := fewStB_fit h.2
 exact ⟨by omega, by omega, fun x hx => ⟨by have := j2 x hx; omega, by have := j2 x hx; omega⟩, fun x hx => ⟨by have := p2 x hx; omega, by have := p2 x hx; omega⟩⟩
theorem stv_small {c : Case} (h : Right c) {s : St} (hv : StV (cc c) s) : (∀ x ∈ s.jobs, x.bytes.size ≤ 1024 ∧ x.tags.length ≤ 64) ∧ (∀ x ∈ s.spaces, x.bytes.size ≤ 1024 ∧ x.tags.length ≤ 64) ∧ s.jobs.length ≤ 3 ∧ s.spaces.length ≤ 5 := by
 have h1 := hv.nj
 have h2 := hv.ns
 have hJ : (cc c).J = c.users.length := rfl
 have hO : (cc c).O = c.sec.objects.length := rfl
 have hJ3 := h.J
 have hO5 := h.O
 refine ⟨fun x hx => ?_, fun x hx => ?_, by omega, by omega⟩
 · obtain ⟨j, hj, rfl⟩ := List.mem_iff_getElem.1 hx
   have q := (hv.job j (by omega)).ok
   have e : s.jobs.getD j default = s.jobs[j] := by simp [List.getD_eq_getElem?_getD, hj]
   rw [e] at q
   have q1 := q.size
   have q2 := q.tags
   constructor <;> omega
 · obtain ⟨j, hj, rfl⟩ := List.mem_iff_getElem.1 hx
   have q := (hv.sp j (by omega)).ok
   have e : s.spaces.getD j default = s.spaces[j] := by simp [List.getD_eq_getElem?_getD, hj]
   rw [e] at q
   have q1 := q.size
   have q2 := q.tags
   have q3 := quadsC_le (cc c) j
   constructor <;> omega
theorem stv_few {c : Case} (h : Right c) {s : St} (hv : StV (cc c) s) : fewS s = true := by
 obtain ⟨a, b, d, e⟩ := stv_small h hv
 unfold fewS fewStB
 rw [decide_eq_true (show s.jobs.length ≤ 6 by omega), decide_eq_true (show s.spaces.length ≤ 12 by omega), Bool.true_and, Bool.true_and, Bool.and_eq_true]
 exact ⟨List.all_eq_true.2 fun x hx => smallS_of.2 ⟨by have := a x hx; omega, by have := a x hx; omega⟩, List.all_eq_true.2 fun x hx => smallS_of.2 ⟨by have := b x hx; omega, by have := b x hx; omega⟩⟩
theorem stv_same {c : Case} (h : Right c) {s : St} (hv : StV (cc c) s) : Ans Tryz.prog 28 [.agg (encSt s), .agg (encSt s)] (.bool true) := by
 obtain ⟨a, b, d, e⟩ := stv_small h hv
 exact SameState_self s (by omega) (by omega) (fun x hx => by have := a x hx; omega) fun x hx => by have := b x hx; omega
theorem same_none : Ans Tryz.prog 28 [.agg [.nils, .nils], .agg [.nils, .nils]] (.bool true) := by
 have h : Ans Tryz.prog 60 [.nils, .nils] (.bool true) := by
  refine good_run [(4, [4, 11, 12, 13, 14, 15, 16, 17, 18, 19, 20, 21, 22, 23, 24, 25, 26], [])] mixed Tryz.func60 rfl Tryz.ntmps60 (rs := [.tmp 4]) rfl (by decide +kernel) (by kernel_rfl) rfl ?_
  rw [startE_eq 27 _ _ _ rfl rfl]
  simp only [go_sem, seval]
  refine loop_unfold ?_
  simp only [go_sem, seval]
 refine good_run [] mixed Tryz.func28 rfl Tryz.ntmps28 (rs := [.tmp 4]) rfl (by decide +kernel) (by kernel_rfl) rfl ?_
 rw [startE_eq 17 _ _ _ rfl rfl]
 simp only [go_sem, seval]
 refine call_of (h) ?_
 simp only [go_sem, seval]
 refine call_of (h) ?_
 simp only [go_sem, seval]
def fewO (l : List COp) : Bool := decide (l.length ≤ 145) && l.all fun o => decide (o.data.size ≤ 1200)
theorem fewO_fit {l : List COp} (h : fewO l = true) : l.length ≤ 145 ∧ ∀ o ∈ l, o.data.size ≤ 1000000 := by
 unfold fewO at h
 rw [Bool.and_eq_true, decide_eq_true_eq] at h
 exact ⟨h.1, fun o ho => by have := of_decide_eq_true (List.all_eq_true.1 h.2 o ho); omega⟩
theorem fewO_good (l : List COp) : Ans Tryz.prog 10 [.sl (l.map encCOp)] (.bool (fewO l)) := by
 refine good_run [(2, [2, 4, 5, 6, 7, 8, 9, 10, 11, 12, 13, 14, 15, 16, 17, 18, 19, 20], [])] mixed Tryz.func10 rfl Tryz.ntmps10 (rs := [.tmp 2]) rfl (by decide +kernel) (by kernel_rfl) rfl ?_
 rw [startE_eq 24 _ _ _ rfl rfl]
 simp only [go_sem, seval]
 refine loop_by ([2, 4, 5, 6, 7, 8, 9, 10, 11, 12, 13, 14, 15, 16, 17, 18, 19, 20], []) (fun i : Nat => [(.s 3, .int .i64 (i : Int))]) (fun i => 146 - i) (fun i => i ≤ l.length ∧ i ≤ 146 ∧ ∀ j, j < i → decide ((nth l j).data.size ≤ 1200) = true) 0 rfl ⟨Nat.zero_le _, Nat.zero_le _, fun j hj => absurd hj (Nat.not_lt_zero _)⟩ rfl ?_
 rintro c' st' hst i ⟨hi, hi2, hp⟩ ih
 simp only [go_sem, seval]
 refine ifI (fun hlt => ?_) fun hlt => ?_
 · have hlt' : i < l.length := by omega
   simp only [go_sem, seval, hlt]
   refine ifI (fun h2 => ?_) fun h2 => ?_
   · refine Classical.byCases (fun h3 : ((nth l i).data.size : Int) > 1200 => ?_) fun h3 => ?_
     · have h3t := eq_true h3
       have hns : decide ((nth l i).data.size ≤ 1200) = false := decide_eq_false (by omega)
       simp only [go_sem, seval, hlt, hlt', h3t, decide_true]
       rw [fewO, all_not hlt' hns, Bool.and_false]
     have h3t := eq_false h3
     simp only [go_sem, seval, hlt, hlt', h3t, decide_false]
     refine ih (i + 1) _ ⟨by omega, by omega, fun j hj => ?_⟩ (by omega) ?_
     · rcases Nat.lt_or_ge j i with h | h
       · exact hp j h
       · rw [show j = i by omega]; exact decide_eq_true (by omega)
     · simp only [go_sem, seval, wrap_succ (show i < 9223372036854775807 by omega)]
   · subst hst
     have hn2 : ((l.length : Int) ≤ 145) = False := eq_false (by omega)
     simp only [go_sem, seval, hn2, decide_false]
     rw [fewO, decide_eq_false (by omega)]; rfl
 · subst hst
   have hall : (l.all fun o => decide (o.data.size ≤ 1200)) = true := (all_nth l _).2 fun j hj => hp j (by omega)
   refine Classical.byCases (fun hn : (l.length : Int) ≤ 145 => ?_) fun hn => ?_
   · have hn2 := eq_true hn
     simp only [go_sem, seval, hlt, hn2, decide_true]
     rw [fewO, hall, decide_eq_true (by omega)]; rfl
   · have hn2 := eq_false hn
     simp only [go_sem, seval, hlt, hn2, decide_false]
     rw [fewO, decide_eq_false (by omega)]; rfl
end Go.Proofs.YtbhgehhmjpipiaaGreatDoor.C12
