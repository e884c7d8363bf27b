/- Plain laws of the plain functions, with no program in sight. Conditions are in each theorem. -/
import Derived.Test.YtnnnpppodblblaaGreatW0
/-
Plain laws: a node is asked to take entries, by the reference.
-/
namespace Go.Proofs.YtnnnpppodblblaaGreat.Pu
open Go Go.Proofs.YtnnnpppodblblaaGreat.Ev

theorem refuse_eq {kind mfrom mto mterm mindex mlt mcom : Int} {mok : Bool} {mes : List T_impl_Entry} {mconf : List Int} {mdata : ByteArray} {mlast : Bool} (index : Int)
    (id term vote role lead : Int) (conf : List Int) (s t : Int) (es : List T_impl_Entry) (com clk li : Int) (votes : List Int) (peers : List T_impl_Peer) :
    spec_l18Refuse.f (kind, mfrom, mto, mterm, mindex, mlt, mcom, mok, mes, mconf, mdata, mlast, ()) index (id, term, vote, role, lead, conf, s, t, es, com, clk, li, votes, peers, [], ()) =
      some ((), ((id, term, vote, role, lead, conf, s, t, es, com, clk, li, votes, peers, [ack id term mfrom false index], ()), ())) := by
  simp only [spec_l18Refuse.f, tell_eq _ _ _ _ _ _ _ _ _ _ _ _ id term vote role lead conf s t es com clk li votes peers [] (show ([] : List T_impl_Message).length ≤ big by simp), Option.bind_some]
  rfl

theorem spec_matchLoop {kind mfrom mto mterm mlt mcom : Int} {mok : Bool} {ents : List T_impl_Entry} {mconf : List Int} {mdata : ByteArray} {mlast : Bool} {s t : Int} {es : List T_impl_Entry} (h : LR s t es) (he4 : ents.length ≤ 1000) {idx : Int} (hi : s ≤ idx ∧ idx ≤ 1000000) (last : Int) (r : T_spec_l18Run) :
    spec_l18AskAppend.L5 (((), (), last, (), (0 : Int), ()), (((kind, mfrom, mto, mterm, idx, mlt, mcom, mok, ents, mconf, mdata, mlast, ()) : T_impl_Message), ((s, t, es, ()) : T_impl_Log), r, ())) =
      some (((), (), last, (), (matchN s t es idx 0 ents : Int), ()), (((kind, mfrom, mto, mterm, idx, mlt, mcom, mok, ents, mconf, mdata, mlast, ()) : T_impl_Message), ((s, t, es, ()) : T_impl_Log), r, ())) := by
  have a1 := h.s0; have a2 := h.len; have a3 := h.last
  have hem : ents.length ≤ maxLen := by rw [maxLen_eq]; omega
  have key : ∀ (k i : Nat), i + k = ents.length → matchN s t es idx 0 ents = matchN s t es idx i (ents.drop i) →
      spec_l18AskAppend.L5 (((), (), last, (), (i : Int), ()), (((kind, mfrom, mto, mterm, idx, mlt, mcom, mok, ents, mconf, mdata, mlast, ()) : T_impl_Message), ((s, t, es, ()) : T_impl_Log), r, ())) =
        some (((), (), last, (), (matchN s t es idx 0 ents : Int), ()), (((kind, mfrom, mto, mterm, idx, mlt, mcom, mok, ents, mconf, mdata, mlast, ()) : T_impl_Message), ((s, t, es, ()) : T_impl_Log), r, ())) := by
    intro k
    induction k with
    | zero =>
      intro i hik hmt
      have hd : ents.drop i = [] := List.drop_eq_nil_of_le (by omega)
      rw [hd] at hmt
      simp only [matchN] at hmt
      refine lim_end ?_
      simp only [spec_l18AskAppend.S5, spec_l18AskAppend.P4, lt_false (show ents.length ≤ i by omega), cond_false, Option.bind_some, hmt]
    | succ k ih =>
      intro i hik hmt
      have hi' : i < ents.length := by omega
      rw [drop_at hi'] at hmt
      have e0 : ents.getD ((i : Int)).toNat Z_impl_Entry = ents[i] := getD_at (List.getElem?_eq_getElem hi')
      have w1 : IntKind.i64.wrap (idx + 1) = idx + 1 := W_id (by omega) (by omega)
      have w2 : IntKind.i64.wrap (idx + 1 + (i : Int)) = idx + (i : Int) + 1 := by rw [W_id (by omega) (by omega)]; omega
      have ht := spec_term h (i := idx + (i : Int) + 1) (by omega) (by omega)
      by_cases hx : logTerm s t es (idx + (i : Int) + 1) = ents[i].1
      · simp only [matchN, if_pos hx] at hmt
        have hb : (logTerm s t es (idx + (i : Int) + 1) == ents[i].1) = true := by simpa using hx
        have hS : spec_l18AskAppend.S5 (((), (), last, (), (i : Int), ()), (((kind, mfrom, mto, mterm, idx, mlt, mcom, mok, ents, mconf, mdata, mlast, ()) : T_impl_Message), ((s, t, es, ()) : T_impl_Log), r, ())) =
            some (.inl (((), (), last, (), ((i + 1 : Nat) : Int), ()), (((kind, mfrom, mto, mterm, idx, mlt, mcom, mok, ents, mconf, mdata, mlast, ()) : T_impl_Message), ((s, t, es, ()) : T_impl_Log), r, ()))) := by
          simp only [spec_l18AskAppend.S5, spec_l18AskAppend.P4, lt_true hi', ge0, Bool.and_self, cond_true, w1, w2, ht, Option.bind_some, e0, hb, W_succ hi' hem]
        rw [show spec_l18AskAppend.L5 = lim spec_l18AskAppend.S5 from rfl, lim_go hS]
        exact ih (i + 1) (by omega) hmt
      · simp only [matchN, if_neg hx] at hmt
        rw [hmt]
        refine lim_end ?_
        have hb : (logTerm s t es (idx + (i : Int) + 1) == ents[i].1) = false := by simpa using hx
        simp only [spec_l18AskAppend.S5, spec_l18AskAppend.P4, lt_true hi', ge0, Bool.and_self, cond_true, cond_false, w1, w2, ht, Option.bind_some, e0, hb]
  exact key ents.length 0 (by omega) rfl

theorem spec_hint (x last : Int) : (bif decide ((bif decide (x < 0) then 0 else x) > last) then last else (bif decide (x < 0) then 0 else x)) = minI (maxI 0 x) last := by
  unfold minI maxI
  by_cases h1 : x < 0
  · have h0 : ¬ (x > 0) := by omega
    simp only [decide_eq_true h1, cond_true, if_neg h0]
    by_cases h2 : (0 : Int) > last
    · simp only [decide_eq_true h2, cond_true, if_pos (show last < 0 by omega)]
    · simp only [decide_eq_false h2, cond_false, if_neg (show ¬ last < 0 by omega)]
  · simp only [decide_eq_false h1, cond_false]
    have h0 : (if x > 0 then x else 0) = x := by split <;> omega
    rw [h0]
    by_cases h2 : x > last
    · simp only [decide_eq_true h2, cond_true, if_pos (show last < x by omega)]
    · simp only [decide_eq_false h2, cond_false, if_neg (show ¬ last < x by omega)]

theorem spec_com (com mcom e : Int) : (bif decide ((bif decide (mcom > e) then e else mcom) > com) then (bif decide (mcom > e) then e else mcom) else com) = maxI com (minI mcom e) := by
  unfold minI maxI
  by_cases h1 : mcom > e
  · by_cases h2 : e > com
    · simp [h1, h2, show e < mcom by omega]
    · simp [h1, h2, show e < mcom by omega]
  · by_cases h2 : mcom > com
    · simp [h1, h2, show ¬ (e < mcom) by omega]
    · simp [h1, h2, show ¬ (e < mcom) by omega]

theorem spec_askAppend {kind mfrom mto mterm mindex mlt mcom : Int} {mok : Bool} {mes : List T_impl_Entry} {mconf : List Int} {mdata : ByteArray} {mlast : Bool}
    (id term vote role lead : Int) {conf : List Int} {s t : Int} {es : List T_impl_Entry} {com : Int} (clk li : Int) (votes : List Int) (peers : List T_impl_Peer) (h : Base id term conf s t es com) (hm : AR kind mfrom mto mterm mindex mlt mcom mes) :
    spec_l18AskAppend.f (kind, mfrom, mto, mterm, mindex, mlt, mcom, mok, mes, mconf, mdata, mlast, ()) (id, term, vote, role, lead, conf, s, t, es, com, clk, li, votes, peers, [], ()) =
      some ((), (let n := (askAppendM id term vote role lead conf s t es com clk li votes peers mfrom mterm mindex mlt mcom mes)
        (n.1.1, n.1.2.1, n.1.2.2.1, n.1.2.2.2.1, n.1.2.2.2.2.1, n.1.2.2.2.2.2.1, n.1.2.2.2.2.2.2.1, n.1.2.2.2.2.2.2.2.1, n.1.2.2.2.2.2.2.2.2.1, n.1.2.2.2.2.2.2.2.2.2.1, n.1.2.2.2.2.2.2.2.2.2.2.1, n.1.2.2.2.2.2.2.2.2.2.2.2.1, n.1.2.2.2.2.2.2.2.2.2.2.2.2.1, n.1.2.2.2.2.2.2.2.2.2.2.2.2.2.1, [n.2], ()), ())) := by
  have hC := h.cr (peers := []) (by simp)
  have a1 := hC.lr.s0; have a2 := hC.lr.len; have a3 := hC.lr.last
  have ml := hm.len; have mi := hm.ix; have mc := hm.cm; have hcm := h.cm
  have hlog := logOk_iff.1 h.logR
  unfold askAppendM
  simp only [spec_l18AskAppend.f, spec_l06 hC.lr, Option.bind_some]
  by_cases hx : mterm < term
  · simp only [decide_eq_true hx, cond_true, if_pos hx, refuse_eq, Option.bind_some]
  · simp only [decide_eq_false hx, cond_false, if_neg hx, follow_eq, Option.bind_some]
    have hP1 : ∀ (r : T_spec_l18Run), spec_l18AskAppend.P1 (((), (), s + (es.length : Int), (), decide (mindex < s), ()), (((kind, mfrom, mto, mterm, mindex, mlt, mcom, mok, mes, mconf, mdata, mlast, ()) : T_impl_Message), ((s, t, es, ()) : T_impl_Log), r, ())) =
        some (((), (), s + (es.length : Int), (), ()), (((kind, mfrom, mto, mterm, adjIdx s mindex, adjLt s t mindex mlt, mcom, mok, adjEnts s mindex mes, mconf, mdata, mlast, ()) : T_impl_Message), ((s, t, es, ()) : T_impl_Log), r, ())) := by
      intro r
      unfold adjIdx adjLt adjEnts
      by_cases hlt : mindex < s
      · have w : IntKind.i64.wrap (s - mindex) = s - mindex := W_id (by omega) (by omega)
        have hv : (bif decide (s - mindex > (mes.length : Int)) then (mes.length : Int) else s - mindex) = ((min (s - mindex).toNat mes.length : Nat) : Int) := by
          by_cases h : s - mindex > (mes.length : Int)
          · simp only [decide_eq_true h, cond_true]; omega
          · simp only [decide_eq_false h, cond_false]; omega
        have hP0 : ∀ b : Bool, spec_l18AskAppend.P0 (((), (), s + (es.length : Int), (), s - mindex, b, ()), (((kind, mfrom, mto, mterm, mindex, mlt, mcom, mok, mes, mconf, mdata, mlast, ()) : T_impl_Message), ((s, t, es, ()) : T_impl_Log), r, ())) = some (((), (), s + (es.length : Int), (), bif b then (mes.length : Int) else s - mindex, ()), (((kind, mfrom, mto, mterm, mindex, mlt, mcom, mok, mes, mconf, mdata, mlast, ()) : T_impl_Message), ((s, t, es, ()) : T_impl_Log), r, ())) := by
          intro b; cases b <;> rfl
        have d : decide (((min (s - mindex).toNat mes.length : Nat) : Int) ≤ (mes.length : Int)) = true := by simp; omega
        simp only [spec_l18AskAppend.P1, decide_eq_true hlt, cond_true, w, letv_eq, hP0, Option.bind_some, hv, ge0, d, Bool.and_self, Bool.true_and, Int.toNat_natCast, List.take_length, drop_min, if_pos hlt]
      · simp only [spec_l18AskAppend.P1, decide_eq_false hlt, cond_false, if_neg hlt]
    simp only [hP1, Option.bind_some]
    have hIx : s ≤ adjIdx s mindex ∧ adjIdx s mindex ≤ 1000000 := by unfold adjIdx; split <;> omega
    have hLt0 : 0 ≤ adjLt s t mindex mlt := by have := hm.lt0; unfold adjLt; split <;> omega
    have hEl := adj_len (s := s) (mindex := mindex) (mes := mes)
    have hEs := adj_sm (s := s) (mindex := mindex) hm.sm
    have hEp : ∀ e, e ∈ adjEnts s mindex mes → 0 ≤ e.1 := fun e he => hm.pos e (adj_mem he)
    generalize adjIdx s mindex = idx at *
    generalize adjLt s t mindex mlt = lt at *
    generalize adjEnts s mindex mes = ents at *
    simp only [spec_term hC.lr (show -9223372036854775808 ≤ idx by omega) (show idx ≤ 9223372036854775807 by omega), Option.bind_some, tailM]
    by_cases ht : logTerm s t es idx = lt
    · have hb : (logTerm s t es idx != lt) = false := by simpa using ht
      have hin := logTerm_in (s := s) (t := t) (es := es) (i := idx) (by rw [ht]; exact hLt0)
      have w : IntKind.i64.wrap (idx + (ents.length : Int)) = idx + (ents.length : Int) := W_id (by omega) (by omega)
      simp only [hb, cond_false, spec_matchLoop hC.lr (show ents.length ≤ 1000 by omega) hIx, Option.bind_some, if_pos ht, w]
      have hme := mergeM_sm (s := s) (t := t) (idx := idx) hC.sm hEs (by omega) (by omega)
      have hge := matchN_ge s t es idx ents 0
      have hmi := matchN_in (s := s) (t := t) (es := es) (idx := idx) ents 0 hEp (by omega) (by omega)
      have hP8 : ∀ (m : T_impl_Message) (r : T_spec_l18Run) (e c : Int) (b : Bool), spec_l18AskAppend.P8 (((), (), e, c, b, ()), (m, r, ())) = some (((), (), e, bif b then e else c, ()), (m, r, ())) := by
        intro m r e c b; cases b <;> rfl
      have hP9 : ∀ (m : T_impl_Message) (r : T_spec_l18Run) (e c : Int) (b : Bool), spec_l18AskAppend.P9 (((), (), e, c, b, ()), (m, r, ())) = some (((), (), e, ()), (m, (r.1, r.2.1, r.2.2.1, r.2.2.2.1, r.2.2.2.2.1, r.2.2.2.2.2.1, r.2.2.2.2.2.2.1, r.2.2.2.2.2.2.2.1, r.2.2.2.2.2.2.2.2.1, (bif b then c else r.2.2.2.2.2.2.2.2.2.1), r.2.2.2.2.2.2.2.2.2.2.1, r.2.2.2.2.2.2.2.2.2.2.2.1, r.2.2.2.2.2.2.2.2.2.2.2.2.1, r.2.2.2.2.2.2.2.2.2.2.2.2.2.1, r.2.2.2.2.2.2.2.2.2.2.2.2.2.2.1, ()), ())) := by
        intro m r e c b; cases b <;> rfl
      have hP7 : spec_l18AskAppend.P7 (((), (), s + (es.length : Int), (), (matchN s t es idx 0 ents : Int), idx + (ents.length : Int), decide ((matchN s t es idx 0 ents : Int) < (ents.length : Int)), ()), (((kind, mfrom, mto, mterm, idx, lt, mcom, mok, ents, mconf, mdata, mlast, ()) : T_impl_Message), ((s, t, es, ()) : T_impl_Log), ((id, term, vote, 0, mfrom, conf, s, t, es, com, 0, li, [], [], [], ()) : T_spec_l18Run), ())) =
          some (bif mergeOk s t es com idx ents then .inl (((), (), idx + (ents.length : Int), ()), (((kind, mfrom, mto, mterm, idx, lt, mcom, mok, ents, mconf, mdata, mlast, ()) : T_impl_Message), ((id, term, vote, 0, mfrom, conf, s, t, mergeM s t es idx ents, com, 0, li, [], [], [], ()) : T_spec_l18Run), ())) else .inr ((), ((id, term, vote, 0, mfrom, conf, s, t, es, com, 0, li, [], [], [ack id term mfrom false (s + (es.length : Int))], ()), ()))) := by
        unfold mergeOk
        by_cases hk : matchN s t es idx 0 ents < ents.length
        · have hmrg : mergeM s t es idx ents = es.take (idx + (matchN s t es idx 0 ents : Int) - s).toNat ++ ents.drop (matchN s t es idx 0 ents) := by unfold mergeM; rw [if_pos hk]
          obtain ⟨j, hj⟩ : ∃ j : Nat, idx + (matchN s t es idx 0 ents : Int) - s = (j : Int) := ⟨(idx + (matchN s t es idx 0 ents : Int) - s).toNat, by omega⟩
          have w1 : IntKind.i64.wrap (idx + (matchN s t es idx 0 ents : Int)) = idx + (matchN s t es idx 0 ents : Int) := W_id (by omega) (by omega)
          have w2 : IntKind.i64.wrap (idx + (matchN s t es idx 0 ents : Int) - s) = (j : Int) := by rw [W_id (by omega) (by omega)]; omega
          have d1 : decide ((j : Int) ≤ (es.length : Int)) = true := by simp; omega
          have d2 : decide ((matchN s t es idx 0 ents : Int) ≤ (ents.length : Int)) = true := by simp; omega
          have d3 : decide ((([] : List T_impl_Entry).length + (es.take j).length) * 32 ≤ 140737488355328) = true := big_app (by simp) (by unfold big; simp; omega) (by omega)
          have d4 : decide (((es.take j).length + (ents.drop (matchN s t es idx 0 ents)).length) * 32 ≤ 140737488355328) = true := big_app (by unfold big; simp; omega) (by unfold big; simp; omega) (by omega)
          have hd5 : decide (idx + (matchN s t es idx 0 ents : Int) < com) = !decide (com ≤ idx + (matchN s t es idx 0 ents : Int)) := decide_lt_le _ _
          rw [hj, Int.toNat_natCast] at hmrg
          simp only [spec_l18AskAppend.P7, lt_true hk, cond_true, w1, w2, ge0, d1, Bool.and_self, Bool.and_true, Bool.true_and, letv_eq, Int.toNat_natCast, Int.toNat_zero, List.drop_zero, d2, d3, List.take_length, List.nil_append, d4]
          rw [← hmrg]
          simp only [spec_l18AskAppend.P6, w1, hd5, spec_logOk_eq (s, t, mergeM s t es idx ents, ()) hme, Option.bind_some, hk, not_true, decide_false, Bool.false_or]
          cases hc1 : decide (com ≤ idx + (matchN s t es idx 0 ents : Int)) with
          | false => simp only [Bool.not_false, cond_true, Option.bind_some, refuse_eq, Bool.false_and, cond_false]
          | true =>
            simp only [Bool.not_true, cond_false, Option.bind_some, Bool.true_and]
            cases hc2 : logOk (s, t, mergeM s t es idx ents, ()) with
            | false => simp only [Bool.not_false, cond_true, refuse_eq, Option.bind_some, cond_false]
            | true => simp only [Bool.not_true, cond_false, cond_true]
        · have hmrg : mergeM s t es idx ents = es := by unfold mergeM; rw [if_neg hk]
          simp only [spec_l18AskAppend.P7, lt_false (show ents.length ≤ matchN s t es idx 0 ents by omega), cond_false, hk, not_false_eq_true, decide_true, Bool.true_or, cond_true, hmrg]
      have hP7' := hP7
      simp only [hP7]
      cases hok : mergeOk s t es com idx ents with
      | false => simp
      | true =>
        simp only [cond_true, Option.bind_some, hP8, hP9, spec_com, if_true, tell_eq _ _ _ _ _ _ _ _ _ _ _ _ id term vote 0 mfrom conf s t (mergeM s t es idx ents) (maxI com (minI mcom (idx + (ents.length : Int)))) 0 li [] [] [] (show ([] : List T_impl_Message).length ≤ big by simp)]
        rfl
    · have hb : (logTerm s t es idx != lt) = true := by simpa using ht
      have w : IntKind.i64.wrap (idx - 1) = idx - 1 := W_id (by omega) (by omega)
      have hP2 : ∀ (m : T_impl_Message) (r : T_spec_l18Run) (e c : Int) (b : Bool), spec_l18AskAppend.P2 (((), (), e, c, b, ()), (m, r, ())) = some (((), (), e, bif b then 0 else c, ()), (m, r, ())) := by
        intro m r e c b; cases b <;> rfl
      have hP3 : ∀ (m : T_impl_Message) (r : T_spec_l18Run) (e c : Int) (b : Bool), spec_l18AskAppend.P3 (((), (), e, c, b, ()), (m, r, ())) = some (((), (), bif b then e else c, ()), (m, r, ())) := by
        intro m r e c b; cases b <;> rfl
      simp only [hb, cond_true, if_neg ht, w, hP2, hP3, Option.bind_some, spec_hint, refuse_eq]

end Go.Proofs.YtnnnpppodblblaaGreat.Pu
/-
Plain laws: a leader is told how far a peer is.
-/
namespace Go.Proofs.YtnnnpppodblblaaGreat.Pu
open Go Go.Proofs.YtnnnpppodblblaaGreat.Ev

theorem indexP_run {ρ α : Type} (c : α → Bool) (f : ρ) (g : Nat → ρ) : ∀ (l : List α) (i : Nat), runL (fun i (_ : Unit) y => bif c y then .inr (g i) else .inl ()) (fun _ => f) i () l = match l.findIdx? c with | some k => g (i + k) | none => f := by
  intro l
  induction l with
  | nil => intro i; simp [runL]
  | cons y r ih =>
    intro i
    simp only [runL, List.findIdx?_cons]
    cases hb : c y with
    | true => simp
    | false =>
      simp only [cond_false, ih, Bool.false_eq_true, if_false]
      cases r.findIdx? c with
      | none => rfl
      | some k => simp only [Option.map_some]; congr 1; omega

def atP (frm : Int) (peers : List T_impl_Peer) : Option Nat := peers.findIdx? (fun p => p.1 == frm)

theorem indexPeer_eq {kind mfrom mto mterm mindex mlt mcom : Int} {mok : Bool} {mes : List T_impl_Entry} {mconf : List Int} {mdata : ByteArray} {mlast : Bool} (l : List T_impl_Peer) (hn : l.length ≤ maxLen) :
    slices_IndexFunc_Peer__impl_Node_heard_c1.f l (kind, mfrom, mto, mterm, mindex, mlt, mcom, mok, mes, mconf, mdata, mlast, ()) = some (((match atP mfrom l with | some k => (k : Int) | none => -1), ()), ()) := by
  have h := lim_list0 (step := slices_IndexFunc_Peer__impl_Node_heard_c1.S0) (fun i (_ : Unit) => ((l, (), (l.length : Int), (i : Int), ()), (((kind, mfrom, mto, mterm, mindex, mlt, mcom, mok, mes, mconf, mdata, mlast, ()) : T_impl_Message), ()))) l (fun i _ y => bif y.1 == mfrom then .inr (.inr (((i : Int), ()), ((kind, mfrom, mto, mterm, mindex, mlt, mcom, mok, mes, mconf, mdata, mlast, ()), ()))) else .inl ()) (fun _ => .inl ((), ((kind, mfrom, mto, mterm, mindex, mlt, mcom, mok, mes, mconf, mdata, mlast, ()), ()))) (fun _ _ => True) () trivial
    (fun i a hi _ => by
      refine ⟨?_, fun _ _ => trivial⟩
      have e0 : l.getD ((i : Int)).toNat Z_impl_Peer = l[i] := getD_at (List.getElem?_eq_getElem hi)
      simp only [slices_IndexFunc_Peer__impl_Node_heard_c1.S0, lt_true hi, ge0, Bool.and_self, cond_true, e0, W_succ hi hn, impl_Node_heard_c1.f, Option.bind_some]
      cases l[i].1 == mfrom <;> rfl)
    (fun a _ => by simp only [slices_IndexFunc_Peer__impl_Node_heard_c1.S0, lt_false (Nat.le_refl _), cond_false])
  replace h := h.trans (congrArg some (indexP_run (fun p : T_impl_Peer => p.1 == mfrom) (Sum.inl ((), ((kind, mfrom, mto, mterm, mindex, mlt, mcom, mok, mes, mconf, mdata, mlast, ()), ()))) (fun i => .inr (((i : Int), ()), ((kind, mfrom, mto, mterm, mindex, mlt, mcom, mok, mes, mconf, mdata, mlast, ()), ()))) l 0))
  have h' : slices_IndexFunc_Peer__impl_Node_heard_c1.L0 ((l, (), (l.length : Int), (0 : Int), ()), (((kind, mfrom, mto, mterm, mindex, mlt, mcom, mok, mes, mconf, mdata, mlast, ()) : T_impl_Message), ())) = _ := h
  simp only [slices_IndexFunc_Peer__impl_Node_heard_c1.f, h', atP]
  cases l.findIdx? (fun p => p.1 == mfrom) <;> simp

theorem atP_lt {frm : Int} {peers : List T_impl_Peer} {k : Nat} (h : atP frm peers = some k) : k < peers.length := by
  obtain ⟨hk, _⟩ := List.findIdx?_eq_some_iff_getElem.1 h
  exact hk

def lastG (frm : Int) (a : Int × Nat) (p : T_impl_Peer) : Int × Nat := (bif p.1 == frm then (a.2 : Int) else a.1, a.2 + 1)

theorem last_fold (frm : Int) : ∀ (l : List T_impl_Peer) (a : Int) (j : Nat), (ids l).Nodup → (l.foldl (lastG frm) (a, j)).1 = match atP frm l with | some k => ((j + k : Nat) : Int) | none => a := by
  intro l
  induction l with
  | nil => intro a j _; rfl
  | cons p r ih =>
    intro a j h
    have h2 : p.1 ∉ ids r ∧ (ids r).Nodup := by simpa [ids] using h
    simp only [List.foldl_cons, lastG, ih _ _ h2.2, atP, List.findIdx?_cons]
    cases hb : p.1 == frm with
    | true =>
      have hp : p.1 = frm := eq_of_beq hb
      have : r.findIdx? (fun p => p.1 == frm) = none := by
        rw [List.findIdx?_eq_none_iff]
        intro q hq
        have : q.1 ≠ frm := by
          intro e
          exact h2.1 (by rw [hp, ← e]; exact List.mem_map.2 ⟨q, hq, rfl⟩)
        simpa using this
      simp [this]
    | false =>
      simp only [cond_false, Bool.false_eq_true, if_false]
      cases r.findIdx? (fun p => p.1 == frm) with
      | none => rfl
      | some k => simp only [Option.map_some]; congr 1; omega

theorem spec_last_peer {kind mfrom mto mterm mindex mlt mcom : Int} {mok : Bool} {mes : List T_impl_Entry} {mconf : List Int} {mdata : ByteArray} {mlast : Bool}
    (id term vote role lead : Int) (conf : List Int) (s t : Int) (es : List T_impl_Entry) (com clk li : Int) (votes : List Int) {peers : List T_impl_Peer} (hn : peers.length ≤ maxLen) (hd : (ids peers).Nodup) :
    spec_l18Reply.L2 (((), (), (-1 : Int), (0 : Int), ()), (((kind, mfrom, mto, mterm, mindex, mlt, mcom, mok, mes, mconf, mdata, mlast, ()) : T_impl_Message), ((id, term, vote, role, lead, conf, s, t, es, com, clk, li, votes, peers, [], ()) : T_spec_l18Run), ())) =
      some (((), (), (match atP mfrom peers with | some k => (k : Int) | none => -1), ()), (((kind, mfrom, mto, mterm, mindex, mlt, mcom, mok, mes, mconf, mdata, mlast, ()) : T_impl_Message), ((id, term, vote, role, lead, conf, s, t, es, com, clk, li, votes, peers, [], ()) : T_spec_l18Run), ())) := by
  have hL := lim_fold (step := spec_l18Reply.S2) (fun i (a : Int × Nat) => (((), (), a.1, (i : Int), ()), (((kind, mfrom, mto, mterm, mindex, mlt, mcom, mok, mes, mconf, mdata, mlast, ()) : T_impl_Message), ((id, term, vote, role, lead, conf, s, t, es, com, clk, li, votes, peers, [], ()) : T_spec_l18Run), ()))) peers (lastG mfrom)
    (fun a => (((), (), a.1, ()), (((kind, mfrom, mto, mterm, mindex, mlt, mcom, mok, mes, mconf, mdata, mlast, ()) : T_impl_Message), ((id, term, vote, role, lead, conf, s, t, es, com, clk, li, votes, peers, [], ()) : T_spec_l18Run), ()))) (fun i a => a.2 = i) (-1, 0) rfl
    (fun i a hi hI => by
      have e0 : peers.getD ((i : Int)).toNat Z_impl_Peer = peers[i] := getD_at (List.getElem?_eq_getElem hi)
      refine ⟨?_, by simp [lastG, hI]⟩
      simp only [spec_l18Reply.S2, spec_l18Reply.P1, lt_true hi, ge0, Bool.and_self, cond_true, e0, lastG, hI]
      cases peers[i].1 == mfrom <;> simp only [cond_true, cond_false, Option.bind_some, W_succ hi hn])
    (fun _ _ => by simp only [spec_l18Reply.S2, lt_false (Nat.le_refl _), cond_false])
  have h := hL.1
  rw [last_fold mfrom peers (-1) 0 hd] at h
  simp only [Nat.zero_add] at h
  exact h

/-- A peer that has taken what was sent. -/
def okPeer (last kind mindex : Int) (p : T_impl_Peer) : T_impl_Peer := (p.1, maxI p.2.2.1 (minI mindex last) + 1, maxI p.2.2.1 (minI mindex last), (bif kind == 6 then 0 else p.2.2.2.1), ())
/-- A peer that has not. -/
def noPeer (s kind mindex mcom : Int) (p : T_impl_Peer) : T_impl_Peer :=
  bif kind == 6 then (p.1, p.2.1, p.2.2.1, (bif mindex == s then mcom else 0), ()) else (p.1, minI p.2.1 (maxI mindex p.2.2.1 + 1), p.2.2.1, p.2.2.2.1, ())

def replyM (id term vote role lead : Int) (conf : List Int) (s t : Int) (es : List T_impl_Entry) (com clk li : Int) (votes : List Int) (peers : List T_impl_Peer) (kind mfrom mterm mindex mcom : Int) (mok : Bool) : T_impl_Node × List T_impl_Message :=
  if mterm = term ∧ role = 2 then
    match atP mfrom peers with
    | none => ((id, term, vote, role, lead, conf, s, t, es, com, clk, li, votes, peers, ()), [])
    | some k =>
      let p := peers.getD k Z_impl_Peer
      bif mok then
        let q := okPeer (s + (es.length : Int)) kind mindex p
        let n := comM id term vote role lead conf s t es com clk li votes (peers.set k q)
        (n, bif n.2.2.2.1 == 2 && decide (q.2.1 ≤ s + (es.length : Int)) then [sendM id term conf s t es n.2.2.2.2.2.2.2.2.2.1 q] else [])
      else
        let q := noPeer s kind mindex mcom p
        ((id, term, vote, role, lead, conf, s, t, es, com, clk, li, votes, peers.set k q, ()), [sendM id term conf s t es com q])
  else ((id, term, vote, role, lead, conf, s, t, es, com, clk, li, votes, peers, ()), [])

theorem getD_set {α : Type} {l : List α} {k : Nat} (h : k < l.length) (x z : α) : (l.set k x).getD k z = x := by simp [List.getD, h]

theorem okPeer_next {last kind mindex : Int} {p : T_impl_Peer} (hl : 0 ≤ last) (h : peerOk last p = true) (hi : 0 ≤ mindex) : 1 ≤ (okPeer last kind mindex p).2.1 ∧ (okPeer last kind mindex p).2.1 ≤ last + 1 := by
  simp only [peerOk, Bool.and_eq_true, inR_iff] at h
  simp only [okPeer, maxI, minI]
  split <;> split <;> omega

theorem noPeer_next {last s kind mindex mcom : Int} {p : T_impl_Peer} (h : peerOk last p = true) (hi : 0 ≤ mindex) : 1 ≤ (noPeer s kind mindex mcom p).2.1 ∧ (noPeer s kind mindex mcom p).2.1 ≤ last + 1 := by
  simp only [peerOk, Bool.and_eq_true, inR_iff] at h
  unfold noPeer
  cases kind == 6
  · simp only [cond_false, maxI, minI]
    split <;> split <;> omega
  · simp only [cond_true]; omega

theorem impl_heard {kind mfrom mto mterm mindex mlt mcom : Int} {mok : Bool} {mes : List T_impl_Entry} {mconf : List Int} {mdata : ByteArray} {mlast : Bool}
    (id term vote role lead : Int) {conf : List Int} {s t : Int} {es : List T_impl_Entry} {com : Int} (clk li : Int) (votes : List Int) {peers : List T_impl_Peer} (h : Base id term conf s t es com) (hp : peersOk id (s + (es.length : Int)) role (confNow conf es) peers = true)
    (hi : 0 ≤ mindex ∧ mindex ≤ 1000000) (hk : kind = 4 ∨ kind = 6) :
    impl_Node_heard.f (kind, mfrom, mto, mterm, mindex, mlt, mcom, mok, mes, mconf, mdata, mlast, ()) (id, term, vote, role, lead, conf, s, t, es, com, clk, li, votes, peers, ()) =
      some (((replyM id term vote role lead conf s t es com clk li votes peers kind mfrom mterm mindex mcom mok).2, ()), ((replyM id term vote role lead conf s t es com clk li votes peers kind mfrom mterm mindex mcom mok).1, ())) := by
  have hpl := peersOk_len hp
  have hcn := confOk_len (confNow_ok es h.confR)
  have hC := h.cr (peers := peers) (by omega)
  have a1 := hC.lr.s0; have a2 := hC.lr.len; have a3 := hC.lr.last
  have hpm : peers.length ≤ maxLen := by rw [maxLen_eq]; omega
  simp only [impl_Node_heard.f, indexPeer_eq peers hpm, Option.bind_some, replyM]
  have hP0 : ∀ (i : Int) (m : T_impl_Message) (n : T_impl_Node), impl_Node_heard.P0 (((), (), i, ()), (m, n, ())) = some (((), (), i, m.2.2.2.1 != n.2.1 || (n.2.2.2.1 != 2 || decide (i < 0)), ()), (m, n, ())) := by
    intro i m n
    simp only [impl_Node_heard.P0]
    cases m.2.2.2.1 != n.2.1 <;> cases n.2.2.2.1 != 2 <;> rfl
  simp only [hP0, Option.bind_some]
  by_cases hx : mterm = term ∧ role = 2
  · obtain ⟨rfl, rfl⟩ := hx
    simp only [bne_self_eq_false, Bool.false_or, and_self, if_true]
    cases hat : atP mfrom peers with
    | none => rfl
    | some k =>
      have hkl := atP_lt hat
      have hne : decide (((k : Nat) : Int) < 0) = false := by simp <;> omega
      have hpk := (peersOk_iff.1 hp).2 _ (List.getElem_mem hkl)
      have egd : peers.getD k Z_impl_Peer = peers[k] := by simp [List.getD, List.getElem?_eq_getElem hkl]
      have hpk' := hpk
      simp only [peerOk, Bool.and_eq_true, inR_iff] at hpk'
      simp only [hne, cond_false, impl_last hC.lr, Option.bind_some, ge0, lt_true hkl, Bool.and_self, cond_true, Int.toNat_natCast, egd, letv_eq, getD_set hkl, List.set_set]
      cases mok with
      | true =>
        simp only [cond_true]
        have hq := okPeer_next (kind := kind) (show 0 ≤ s + (es.length : Int) by omega) hpk hi.1
        have hCp : CR mterm conf s t es com (peers.set k (okPeer (s + (es.length : Int)) kind mindex peers[k])) := h.cr (by simp; omega)
        have w : IntKind.i64.wrap (maxI peers[k].2.2.1 (minI mindex (s + (es.length : Int))) + 1) = maxI peers[k].2.2.1 (minI mindex (s + (es.length : Int))) + 1 := by
          have := hq
          simp only [okPeer] at this
          exact W_id (by omega) (by omega)
        have hmx : (if (if s + (es.length : Int) < mindex then s + (es.length : Int) else mindex) > peers[k].2.2.1 then (if s + (es.length : Int) < mindex then s + (es.length : Int) else mindex) else peers[k].2.2.1) = maxI peers[k].2.2.1 (minI mindex (s + (es.length : Int))) := rfl
        have hP1 : ∀ (n : T_impl_Node) (q : T_impl_Peer), impl_Node_heard.P1 (((), s + (es.length : Int), (), ()), (q, n, ())) = some (((), (), !(n.2.2.2.1 == 2 && decide (q.2.1 ≤ s + (es.length : Int))), ()), (q, n, ())) := by
          intro n q
          simp only [impl_Node_heard.P1, bne, gt_iff_lt, decide_lt_le]
          cases n.2.2.2.1 == 2 <;> rfl
        have hcom := impl_commit id mterm vote 2 lead clk li votes hCp
        have hsend : ∀ c r l vs ps, impl_Node_send.f (okPeer (s + (es.length : Int)) kind mindex peers[k]) (id, mterm, vote, r, l, conf, s, t, es, c, clk, li, vs, ps, ()) = some ((sendM id mterm conf s t es c (okPeer (s + (es.length : Int)) kind mindex peers[k]), ()), ()) := by
          intro c r l vs ps
          exact impl_send _ id mterm vote r l c clk li vs ps hC.lr hC.cl hq
        rcases hk with rfl | rfl
        · have e4 : ((4 : Int) == 6) = false := rfl
          have eq1 : ((peers[k].1, maxI peers[k].2.2.1 (minI mindex (s + (es.length : Int))) + 1, maxI peers[k].2.2.1 (minI mindex (s + (es.length : Int))), peers[k].2.2.2.1, ()) : T_impl_Peer) = okPeer (s + (es.length : Int)) 4 mindex peers[k] := rfl
          simp only [e4, cond_false, hmx, w, eq1, hcom, Option.bind_some, hP1, comM]
          cases hd : drops id 2 (confNow conf es) s es (newCom id mterm (confNow conf es) s t es com (peers.set k (okPeer (s + (es.length : Int)) 4 mindex peers[k]))) with
          | true => rfl
          | false =>
            simp only [cond_false, beq_self_eq_true, Bool.true_and]
            cases decide ((okPeer (s + (es.length : Int)) 4 mindex peers[k]).2.1 ≤ s + (es.length : Int)) with
            | false => rfl
            | true => simp only [Bool.not_true, cond_false, cond_true, hsend, Option.bind_some]
        · have eq1 : ((peers[k].1, maxI peers[k].2.2.1 (minI mindex (s + (es.length : Int))) + 1, maxI peers[k].2.2.1 (minI mindex (s + (es.length : Int))), 0, ()) : T_impl_Peer) = okPeer (s + (es.length : Int)) 6 mindex peers[k] := rfl
          simp only [beq_self_eq_true, cond_true, hmx, w, eq1, hcom, Option.bind_some, hP1, comM]
          cases hd : drops id 2 (confNow conf es) s es (newCom id mterm (confNow conf es) s t es com (peers.set k (okPeer (s + (es.length : Int)) 6 mindex peers[k]))) with
          | true => rfl
          | false =>
            simp only [cond_false, beq_self_eq_true, Bool.true_and]
            cases decide ((okPeer (s + (es.length : Int)) 6 mindex peers[k]).2.1 ≤ s + (es.length : Int)) with
            | false => rfl
            | true => simp only [Bool.not_true, cond_false, cond_true, hsend, Option.bind_some]
      | false =>
        simp only [cond_false]
        have hq := noPeer_next (s := s) (kind := kind) (mcom := mcom) hpk hi.1
        have hsend : ∀ ps, impl_Node_send.f (noPeer s kind mindex mcom peers[k]) (id, mterm, vote, 2, lead, conf, s, t, es, com, clk, li, votes, ps, ()) = some ((sendM id mterm conf s t es com (noPeer s kind mindex mcom peers[k]), ()), ()) := by
          intro ps
          exact impl_send _ id mterm vote 2 lead com clk li votes ps hC.lr hC.cl hq
        rcases hk with rfl | rfl
        · have w : IntKind.i64.wrap (maxI mindex peers[k].2.2.1 + 1) = maxI mindex peers[k].2.2.1 + 1 := by
            refine W_id ?_ ?_ <;> unfold maxI <;> split <;> omega
          have hmx : (if peers[k].2.2.1 > mindex then peers[k].2.2.1 else mindex) = maxI mindex peers[k].2.2.1 := rfl
          have hmn : (if maxI mindex peers[k].2.2.1 + 1 < peers[k].2.1 then maxI mindex peers[k].2.2.1 + 1 else peers[k].2.1) = minI peers[k].2.1 (maxI mindex peers[k].2.2.1 + 1) := rfl
          have eq1 : ((peers[k].1, minI peers[k].2.1 (maxI mindex peers[k].2.2.1 + 1), peers[k].2.2.1, peers[k].2.2.2.1, ()) : T_impl_Peer) = noPeer s 4 mindex mcom peers[k] := rfl
          simp only [beq_self_eq_true, cond_true, hmx, w, hmn, eq1, hsend, Option.bind_some]
        · have e4 : ((6 : Int) == 4) = false := rfl
          simp only [e4, cond_false]
          cases hb : mindex == s with
          | true =>
            have eq1 : ((peers[k].1, peers[k].2.1, peers[k].2.2.1, mcom, ()) : T_impl_Peer) = noPeer s 6 mindex mcom peers[k] := by unfold noPeer; rw [hb]; rfl
            simp only [cond_true, eq1, hsend, Option.bind_some]
          | false =>
            have eq1 : ((peers[k].1, peers[k].2.1, peers[k].2.2.1, 0, ()) : T_impl_Peer) = noPeer s 6 mindex mcom peers[k] := by unfold noPeer; rw [hb]; rfl
            simp only [cond_false, eq1, hsend, Option.bind_some]
  · have hb : (mterm != term || (role != 2 || decide ((match atP mfrom peers with | some k => (k : Int) | none => -1) < 0))) = true := by
      by_cases h1 : mterm = term
      · by_cases h2 : role = 2
        · exact absurd ⟨h1, h2⟩ hx
        · simp [h2]
      · simp [h1]
    rw [hb]
    simp only [cond_true, if_neg hx]

end Go.Proofs.YtnnnpppodblblaaGreat.Pu
/-
Plain laws: a leader is told how far a peer is, by the reference.
-/
namespace Go.Proofs.YtnnnpppodblblaaGreat.Pu
open Go Go.Proofs.YtnnnpppodblblaaGreat.Ev

theorem others_nodup_all : ∀ l ∈ rows4, ∀ x ∈ [(1 : Int), 2, 3, 4], (others l x).Nodup := by decide

theorem others_nodup {l : List Int} {x : Int} (h : confOk l = true) (hx : 1 ≤ x ∧ x ≤ 4) : (others l x).Nodup := by
  simp only [confOk, Bool.and_eq_true] at h
  exact others_nodup_all l (rise_rows h.2) x (by
    have : x = 1 ∨ x = 2 ∨ x = 3 ∨ x = 4 := by omega
    simpa using this)

theorem peers_nodup {id last role : Int} {conf : List Int} {peers : List T_impl_Peer} (h : peersOk id last role conf peers = true) (hc : confOk conf = true) (hx : 1 ≤ id ∧ id ≤ 4) : (ids peers).Nodup := by
  rw [(peersOk_iff.1 h).1]
  split
  · exact others_nodup hc hx
  · simp

theorem spec_reply {kind mfrom mto mterm mindex mlt mcom : Int} {mok : Bool} {mes : List T_impl_Entry} {mconf : List Int} {mdata : ByteArray} {mlast : Bool}
    (id term vote role lead : Int) {conf : List Int} {s t : Int} {es : List T_impl_Entry} {com : Int} (clk li : Int) (votes : List Int) {peers : List T_impl_Peer} (h : Base id term conf s t es com) (hp : peersOk id (s + (es.length : Int)) role (confNow conf es) peers = true)
    (hi : 0 ≤ mindex ∧ mindex ≤ 1000000) (hk : kind = 4 ∨ kind = 6) (hc6 : kind = 6 → mcom ≤ 20000) :
    spec_l18Reply.f (kind, mfrom, mto, mterm, mindex, mlt, mcom, mok, mes, mconf, mdata, mlast, ()) (id, term, vote, role, lead, conf, s, t, es, com, clk, li, votes, peers, [], ()) =
      some ((), (let n := (replyM id term vote role lead conf s t es com clk li votes peers kind mfrom mterm mindex mcom mok)
        (n.1.1, n.1.2.1, n.1.2.2.1, n.1.2.2.2.1, n.1.2.2.2.2.1, n.1.2.2.2.2.2.1, n.1.2.2.2.2.2.2.1, n.1.2.2.2.2.2.2.2.1, n.1.2.2.2.2.2.2.2.2.1, n.1.2.2.2.2.2.2.2.2.2.1, n.1.2.2.2.2.2.2.2.2.2.2.1, n.1.2.2.2.2.2.2.2.2.2.2.2.1, n.1.2.2.2.2.2.2.2.2.2.2.2.2.1, n.1.2.2.2.2.2.2.2.2.2.2.2.2.2.1, n.2, ()), ())) := by
  have hpl := peersOk_len hp
  have hcn := confOk_len (confNow_ok es h.confR)
  have hC := h.cr (peers := peers) (by omega)
  have a1 := hC.lr.s0; have a2 := hC.lr.len; have a3 := hC.lr.last
  have hpm : peers.length ≤ maxLen := by rw [maxLen_eq]; omega
  have hnd := peers_nodup hp (confNow_ok es h.confR) h.idR
  have hP0 : ∀ (m : T_impl_Message) (n : T_spec_l18Run), spec_l18Reply.P0 (((), (), ()), (m, n, ())) = some (((), (), m.2.2.2.1 != n.2.1 || n.2.2.2.1 != 2, ()), (m, n, ())) := by
    intro m n
    simp only [spec_l18Reply.P0]
    cases m.2.2.2.1 != n.2.1 <;> rfl
  simp only [spec_l18Reply.f, hP0, Option.bind_some, replyM]
  by_cases hx : mterm = term ∧ role = 2
  · obtain ⟨rfl, rfl⟩ := hx
    simp only [bne_self_eq_false, Bool.or_self, cond_false, spec_last_peer id mterm vote 2 lead conf s t es com clk li votes hpm hnd, Option.bind_some, and_self, if_true]
    cases hat : atP mfrom peers with
    | none => rfl
    | some k =>
      have hkl := atP_lt hat
      have hne : decide (((k : Nat) : Int) < 0) = false := by simp <;> omega
      have hpk := (peersOk_iff.1 hp).2 _ (List.getElem_mem hkl)
      have egd : peers.getD k Z_impl_Peer = peers[k] := by simp [List.getD, List.getElem?_eq_getElem hkl]
      have hpk' := hpk
      simp only [peerOk, Bool.and_eq_true, inR_iff] at hpk'
      simp only [hne, cond_false, spec_l06 hC.lr, Option.bind_some, ge0, lt_true hkl, Bool.and_self, cond_true, Int.toNat_natCast, egd, letv_eq]
      cases mok with
      | true =>
        simp only [cond_true]
        have hq := okPeer_next (kind := kind) (show 0 ≤ s + (es.length : Int) by omega) hpk hi.1
        have hCp : CR mterm conf s t es com (peers.set k (okPeer (s + (es.length : Int)) kind mindex peers[k])) := h.cr (by simp; omega)
        have w : IntKind.i64.wrap (maxI peers[k].2.2.1 (minI mindex (s + (es.length : Int))) + 1) = maxI peers[k].2.2.1 (minI mindex (s + (es.length : Int))) + 1 := by
          have := hq
          simp only [okPeer] at this
          exact W_id (by omega) (by omega)
        have hP3 : ∀ (m : T_impl_Message) (q : T_impl_Peer) (n : T_spec_l18Run) (a b x : Int) (c : Bool), spec_l18Reply.P3 (((), (), a, b, (), x, c, ()), (m, q, n, ())) = some (((), (), a, b, (), bif c then b else x, ()), (m, q, n, ())) := by
          intro m q n a b x c; cases c <;> rfl
        have hP4 : ∀ (m : T_impl_Message) (q : T_impl_Peer) (n : T_spec_l18Run) (a b x : Int) (c : Bool), spec_l18Reply.P4 (((), (), a, b, (), x, c, ()), (m, q, n, ())) = some (((), (), a, b, (), ()), (m, (q.1, q.2.1, (bif c then x else q.2.2.1), q.2.2.2.1, ()), n, ())) := by
          intro m q n a b x c; cases c <;> rfl
        have hP5 : ∀ (q : T_impl_Peer) (n : T_spec_l18Run) (a b : Int) (c : Bool), spec_l18Reply.P5 (((), a, b, (), c, ()), (q, n, ())) = some (((), a, b, (), ()), ((q.1, q.2.1, q.2.2.1, (bif c then 0 else q.2.2.2.1), ()), n, ())) := by
          intro q n a b c; cases c <;> rfl
        have hP6 : ∀ (q : T_impl_Peer) (n : T_spec_l18Run) (b : Int), spec_l18Reply.P6 (((), b, (), ()), (q, n, ())) = some (((), (), n.2.2.2.1 == 2 && decide (q.2.1 ≤ b), ()), (q, n, ())) := by
          intro q n b
          simp only [spec_l18Reply.P6]
          cases n.2.2.2.1 == 2 <;> rfl
        have hmx : (bif decide ((bif decide (mindex > s + (es.length : Int)) then s + (es.length : Int) else mindex) > peers[k].2.2.1) then (bif decide (mindex > s + (es.length : Int)) then s + (es.length : Int) else mindex) else peers[k].2.2.1) = maxI peers[k].2.2.1 (minI mindex (s + (es.length : Int))) := spec_com _ _ _
        have eq1 : ((peers[k].1, maxI peers[k].2.2.1 (minI mindex (s + (es.length : Int))) + 1, maxI peers[k].2.2.1 (minI mindex (s + (es.length : Int))), (bif kind == 6 then 0 else peers[k].2.2.2.1), ()) : T_impl_Peer) = okPeer (s + (es.length : Int)) kind mindex peers[k] := rfl
        have hcom := spec_commit id mterm vote 2 lead clk li votes [] hCp
        have hsend : ∀ c r l vs ps, spec_l18Send.f (okPeer (s + (es.length : Int)) kind mindex peers[k]) (id, mterm, vote, r, l, conf, s, t, es, c, clk, li, vs, ps, [], ()) = some ((), ((id, mterm, vote, r, l, conf, s, t, es, c, clk, li, vs, ps, [sendM id mterm conf s t es c (okPeer (s + (es.length : Int)) kind mindex peers[k])], ()), ())) := by
          intro c r l vs ps
          exact spec_send _ id mterm vote r l c clk li vs ps (told := []) hC.lr hC.cl (by simp) hq
        simp only [hP3, hP4, hP5, hmx, w, Option.bind_some, ge0, lt_true hkl, Bool.and_self, cond_true, Int.toNat_natCast, eq1, hcom, hP6, spec_l18Reply.P7, comM]
        cases hd : drops id 2 (confNow conf es) s es (newCom id mterm (confNow conf es) s t es com (peers.set k (okPeer (s + (es.length : Int)) kind mindex peers[k]))) with
        | true => rfl
        | false =>
          simp only [cond_false, beq_self_eq_true, Bool.true_and]
          have e21 : (okPeer (s + (es.length : Int)) kind mindex peers[k]).2.1 = maxI peers[k].2.2.1 (minI mindex (s + (es.length : Int))) + 1 := rfl
          rw [e21]
          cases decide (maxI peers[k].2.2.1 (minI mindex (s + (es.length : Int))) + 1 ≤ s + (es.length : Int)) with
          | false => rfl
          | true => simp only [cond_true, hsend, Option.bind_some]
      | false =>
        simp only [cond_false]
        have hq := noPeer_next (s := s) (kind := kind) (mcom := mcom) hpk hi.1
        have hsend : ∀ ps, spec_l18Send.f (noPeer s kind mindex mcom peers[k]) (id, mterm, vote, 2, lead, conf, s, t, es, com, clk, li, votes, ps, [], ()) = some ((), ((id, mterm, vote, 2, lead, conf, s, t, es, com, clk, li, votes, ps, [sendM id mterm conf s t es com (noPeer s kind mindex mcom peers[k])], ()), ())) := by
          intro ps
          exact spec_send _ id mterm vote 2 lead com clk li votes ps (told := []) hC.lr hC.cl (by simp) hq
        have hP12 : ∀ (m : T_impl_Message) (n : T_spec_l18Run) (a : Int), m.1 = kind → m.2.2.2.2.1 = mindex → m.2.2.2.2.2.2.1 = mcom → n.2.2.2.2.2.2.1 = s → spec_l18Reply.P12 (((), (), a, (), kind == 6, ()), (m, peers[k], n, ())) = some (((), a, (), ()), (noPeer s kind mindex mcom peers[k], n, ())) := by
          intro m n a m1 m2 m3 m4
          rcases hk with rfl | rfl
          · have e4 : ((4 : Int) == 6) = false := rfl
            have w1 : IntKind.i64.wrap (mindex + 1) = mindex + 1 := W_id (by omega) (by omega)
            have w2 : IntKind.i64.wrap (peers[k].2.2.1 + 1) = peers[k].2.2.1 + 1 := W_id (by omega) (by omega)
            have hP10 : ∀ (q : T_impl_Peer) (n : T_spec_l18Run) (a x : Int) (c : Bool), spec_l18Reply.P10 (((), a, (), x, c, ()), (q, n, ())) = some (((), a, (), (bif c then IntKind.i64.wrap (q.2.2.1 + 1) else x), ()), (q, n, ())) := by
              intro q n a x c; cases c <;> rfl
            have hP11 : ∀ (q : T_impl_Peer) (n : T_spec_l18Run) (a x : Int) (c : Bool), spec_l18Reply.P11 (((), a, (), x, c, ()), (q, n, ())) = some (((), a, (), ()), ((q.1, (bif c then x else q.2.1), q.2.2.1, q.2.2.2.1, ()), n, ())) := by
              intro q n a x c; cases c <;> rfl
            simp only [spec_l18Reply.P12, e4, cond_false, letv_eq, m2, w1, w2, hP10, hP11, Option.bind_some, noPeer]
            have hv : (bif decide (mindex + 1 < peers[k].2.2.1 + 1) then peers[k].2.2.1 + 1 else mindex + 1) = maxI mindex peers[k].2.2.1 + 1 := by
              unfold maxI
              by_cases h : mindex + 1 < peers[k].2.2.1 + 1
              · simp only [decide_eq_true h, cond_true, if_pos (show peers[k].2.2.1 > mindex by omega)]
              · simp only [decide_eq_false h, cond_false, if_neg (show ¬ peers[k].2.2.1 > mindex by omega)]
            rw [hv]
            have hv2 : (bif decide (maxI mindex peers[k].2.2.1 + 1 < peers[k].2.1) then maxI mindex peers[k].2.2.1 + 1 else peers[k].2.1) = minI peers[k].2.1 (maxI mindex peers[k].2.2.1 + 1) := by
              unfold minI
              by_cases h : maxI mindex peers[k].2.2.1 + 1 < peers[k].2.1
              · simp only [decide_eq_true h, cond_true, if_pos h]
              · simp only [decide_eq_false h, cond_false, if_neg h]
            rw [hv2]
          · have hm6 := hc6 rfl
            have hP8 : ∀ (m : T_impl_Message) (q : T_impl_Peer) (n : T_spec_l18Run) (a : Int), spec_l18Reply.P8 (((), (), a, (), ()), (m, q, n, ())) = some (((), (), a, (), m.2.2.2.2.1 == n.2.2.2.2.2.2.1 && decide (m.2.2.2.2.2.2.1 ≤ 20000), ()), (m, q, n, ())) := by
              intro m q n a
              simp only [spec_l18Reply.P8]
              cases m.2.2.2.2.1 == n.2.2.2.2.2.2.1 <;> rfl
            have hP9 : ∀ (m : T_impl_Message) (q : T_impl_Peer) (n : T_spec_l18Run) (a : Int) (c : Bool), spec_l18Reply.P9 (((), (), a, (), c, ()), (m, q, n, ())) = some (((), a, (), ()), ((q.1, q.2.1, q.2.2.1, (bif c then m.2.2.2.2.2.2.1 else q.2.2.2.1), ()), n, ())) := by
              intro m q n a c; cases c <;> rfl
            simp only [spec_l18Reply.P12, beq_self_eq_true, cond_true, hP8, hP9, Option.bind_some, m2, m3, m4, noPeer, decide_eq_true hm6, Bool.and_true]
        simp only [hP12 (kind, mfrom, mto, mterm, mindex, mlt, mcom, false, mes, mconf, mdata, mlast, ()) (id, mterm, vote, 2, lead, conf, s, t, es, com, clk, li, votes, peers, [], ()) (k : Int) rfl rfl rfl rfl, Option.bind_some, ge0, lt_true hkl, Bool.and_self, cond_true, Int.toNat_natCast]
        have eta : ((((noPeer s kind mindex mcom peers[k]).1, (noPeer s kind mindex mcom peers[k]).2.1, (noPeer s kind mindex mcom peers[k]).2.2.1, (noPeer s kind mindex mcom peers[k]).2.2.2.1, ()) : T_impl_Peer)) = noPeer s kind mindex mcom peers[k] := rfl
        simp only [eta, hsend, Option.bind_some]
  · have hb : (mterm != term || role != 2) = true := by
      by_cases h1 : mterm = term
      · by_cases h2 : role = 2
        · exact absurd ⟨h1, h2⟩ hx
        · simp [h2]
      · simp [h1]
    rw [hb]
    simp only [cond_true, if_neg hx]

end Go.Proofs.YtnnnpppodblblaaGreat.Pu
/-
Plain laws: a message comes.
-/
namespace Go.Proofs.YtnnnpppodblblaaGreat.Pu
open Go Go.Proofs.YtnnnpppodblblaaGreat.Ev

/-- A message of a Term that is not above the node's. -/
def takeM (id term vote role lead : Int) (conf : List Int) (s t : Int) (es : List T_impl_Entry) (com clk li : Int) (votes : List Int) (peers : List T_impl_Peer) (kind mfrom mterm mindex mlt mcom : Int) (mok : Bool) (mes : List T_impl_Entry) : T_impl_Node × List T_impl_Message :=
  if kind = 1 then
    ((id, term, bif grants term vote t s es mterm mfrom mlt mindex then mfrom else vote, role, lead, conf, s, t, es, com, bif grants term vote t s es mterm mfrom mlt mindex then 0 else clk, li, votes, peers, ()), [voteMsg id term mfrom (grants term vote t s es mterm mfrom mlt mindex)])
  else if kind = 2 then tellVoteM id term vote role lead conf s t es com clk li votes peers mterm mfrom mok
  else if kind = 3 then ((askAppendM id term vote role lead conf s t es com clk li votes peers mfrom mterm mindex mlt mcom mes).1, [(askAppendM id term vote role lead conf s t es com clk li votes peers mfrom mterm mindex mlt mcom mes).2])
  else if kind = 5 then
    (bif mterm == term then (id, term, vote, 0, mfrom, conf, s, t, es, com, 0, li, [], [], ()) else (id, term, vote, role, lead, conf, s, t, es, com, clk, li, votes, peers, ()), [])
  else replyM id term vote role lead conf s t es com clk li votes peers kind mfrom mterm mindex mcom mok

structure TR (id term role : Int) (conf : List Int) (s t : Int) (es : List T_impl_Entry) (com : Int) (votes : List Int) (peers : List T_impl_Peer) (kind mfrom mto mterm mindex mlt mcom : Int) (mes : List T_impl_Entry) : Prop where
  base : Base id term conf s t es com
  votes : rise 1 4 none votes = true
  peers : peersOk id (s + (es.length : Int)) role (confNow conf es) peers = true
  ar : AR kind mfrom mto mterm mindex mlt mcom mes
  kind : 1 ≤ kind ∧ kind ≤ 6
  frm : 1 ≤ mfrom ∧ mfrom ≤ 4
  le : mterm ≤ term

theorem impl_take {kind mfrom mto mterm mindex mlt mcom : Int} {mok : Bool} {mes : List T_impl_Entry} {mconf : List Int} {mdata : ByteArray} {mlast : Bool}
    (id term vote role lead : Int) {conf : List Int} {s t : Int} {es : List T_impl_Entry} {com : Int} (clk li : Int) {votes : List Int} {peers : List T_impl_Peer} (h : TR id term role conf s t es com votes peers kind mfrom mto mterm mindex mlt mcom mes) :
    impl_Node_receive.f (kind, mfrom, mto, mterm, mindex, mlt, mcom, mok, mes, mconf, mdata, mlast, ()) (id, term, vote, role, lead, conf, s, t, es, com, clk, li, votes, peers, ()) =
      some (((takeM id term vote role lead conf s t es com clk li votes peers kind mfrom mterm mindex mlt mcom mok mes).2, ()), ((takeM id term vote role lead conf s t es com clk li votes peers kind mfrom mterm mindex mlt mcom mok mes).1, ())) := by
  have hpl := peersOk_len h.peers
  have hcn := confOk_len (confNow_ok es h.base.confR)
  have hvl := rise_len4 h.votes
  have hC := h.base.cr (peers := peers) (by omega)
  have a1 := hC.lr.s0; have a2 := hC.lr.len; have a3 := hC.lr.last; have hk := h.kind
  have e0 : confAt s conf es (s + (es.length : Int)) = confNow conf es := confAt_all (Int.le_refl _)
  unfold takeM
  by_cases h1 : kind = 1
  · subst h1
    simp only [impl_Node_receive.f, beq_self_eq_true, cond_true, impl_askedVote id term vote role lead com clk li votes peers hC.lr, Option.bind_some, if_true]
  have k1 : (kind == 1) = false := by simpa using h1
  simp only [impl_Node_receive.f, k1, cond_false, if_neg h1]
  by_cases h2 : kind = 2
  · subst h2
    have hP0 : ∀ (m : T_impl_Message) (n : T_impl_Node), impl_Node_receive.P0 (((), (), ()), (m, n, ())) = some (((), (), !m.2.2.2.2.2.2.2.1 || (m.2.2.2.1 != n.2.1 || n.2.2.2.1 != 1), ()), (m, n, ())) := by
      intro m n
      simp only [impl_Node_receive.P0]
      cases m.2.2.2.2.2.2.2.1 <;> cases m.2.2.2.1 != n.2.1 <;> rfl
    simp only [beq_self_eq_true, impl_Node_receive.P2, cond_true, hP0, Option.bind_some, if_true, tellVoteM]
    cases (!mok || (mterm != term || role != 1)) with
    | true => rfl
    | false =>
      have hol : (others votes mfrom).length ≤ 4 := Nat.le_trans (others_len _ _) hvl
      have d : decide (((others votes mfrom).length + [mfrom].length) * 8 ≤ 140737488355328) = true := big_app (by unfold big; omega) (by simp [big]) (by omega)
      have hso := nextVotes_eq h.votes h.frm
      have hnl := nextVotes_len votes mfrom
      simp only [cond_false, without_eq mfrom (show votes.length ≤ 1000 by omega), Option.bind_some, d, cond_true, sort_eq (others votes mfrom ++ [mfrom]) (by simp; omega), hso.1, impl_confOf_eq id term vote role lead com clk li (nextVotes votes mfrom) peers hC.lr hC.sm hC.cl, e0, impl_most (confNow conf es) (nextVotes votes mfrom) hC.now (by rw [maxLen_eq]; omega)]
      cases most (confNow conf es) (nextVotes votes mfrom) with
      | false => rfl
      | true =>
        simp only [cond_true, impl_lead id term vote role lead clk li (nextVotes votes mfrom) peers h.base, Option.bind_some]
        rfl
  have k2 : (kind == 2) = false := by simpa using h2
  simp only [impl_Node_receive.P2, k2, cond_false, if_neg h2]
  by_cases h3 : kind = 3
  · subst h3
    simp only [beq_self_eq_true, cond_true, impl_askedAppend id term vote role lead clk li votes peers h.base h.ar, Option.bind_some, if_true]
    unfold askAppendM tailM
    split
    · rfl
    · split
      · split <;> rfl
      · rfl
  have k3 : (kind == 3) = false := by simpa using h3
  simp only [k3, cond_false, if_neg h3]
  by_cases h5 : kind = 5
  · subst h5
    simp only [beq_self_eq_true, cond_true, Option.bind_some, if_true, impl_Node_receive.P1]
    cases mterm == term <;> rfl
  have k5 : (kind == 5) = false := by simpa using h5
  simp only [k5, cond_false, if_neg h5, impl_heard id term vote role lead clk li votes h.base h.peers h.ar.ix (show kind = 4 ∨ kind = 6 by omega), Option.bind_some]
  unfold replyM
  split
  · split
    · rfl
    · cases mok <;> rfl
  · rfl

theorem spec_take {kind mfrom mto mterm mindex mlt mcom : Int} {mok : Bool} {mes : List T_impl_Entry} {mconf : List Int} {mdata : ByteArray} {mlast : Bool} (z : T_impl_Node)
    (id term vote role lead : Int) {conf : List Int} {s t : Int} {es : List T_impl_Entry} {com : Int} (clk li : Int) {votes : List Int} {peers : List T_impl_Peer} (h : TR id term role conf s t es com votes peers kind mfrom mto mterm mindex mlt mcom mes) (hc6 : kind = 6 → mcom ≤ 20000) :
    spec_Receive.P8 (((), (), (), kind, kind == 1, ()), (((kind, mfrom, mto, mterm, mindex, mlt, mcom, mok, mes, mconf, mdata, mlast, ()) : T_impl_Message), z, ((id, term, vote, role, lead, conf, s, t, es, com, clk, li, votes, peers, [], ()) : T_spec_l18Run), ())) =
      some (((), (), ()), (z, (let n := (takeM id term vote role lead conf s t es com clk li votes peers kind mfrom mterm mindex mlt mcom mok mes)
        (n.1.1, n.1.2.1, n.1.2.2.1, n.1.2.2.2.1, n.1.2.2.2.2.1, n.1.2.2.2.2.2.1, n.1.2.2.2.2.2.2.1, n.1.2.2.2.2.2.2.2.1, n.1.2.2.2.2.2.2.2.2.1, n.1.2.2.2.2.2.2.2.2.2.1, n.1.2.2.2.2.2.2.2.2.2.2.1, n.1.2.2.2.2.2.2.2.2.2.2.2.1, n.1.2.2.2.2.2.2.2.2.2.2.2.2.1, n.1.2.2.2.2.2.2.2.2.2.2.2.2.2.1, n.2, ())), ())) := by
  have hpl := peersOk_len h.peers
  have hcn := confOk_len (confNow_ok es h.base.confR)
  have hC := h.base.cr (peers := peers) (by omega)
  have hk := h.kind
  unfold takeM
  by_cases h1 : kind = 1
  · subst h1
    simp only [spec_Receive.P8, beq_self_eq_true, cond_true, spec_askVote id term vote role lead com clk li votes peers hC.lr, Option.bind_some, if_true]
  have k1 : (kind == 1) = false := by simpa using h1
  simp only [spec_Receive.P8, k1, cond_false, if_neg h1]
  by_cases h2 : kind = 2
  · subst h2
    simp only [spec_Receive.P7, beq_self_eq_true, cond_true, spec_tellVote id term vote role lead clk li h.base h.votes (show peers.length ≤ 1000 by omega), Option.bind_some, if_true]
    have hcf : (tellVoteM id term vote role lead conf s t es com clk li votes peers mterm mfrom mok).1.2.2.2.2.2.1 = conf := by
      unfold tellVoteM
      cases (!mok || (mterm != term || role != 1)) <;> cases most (confNow conf es) (nextVotes votes mfrom) <;> rfl
    rw [hcf]
  have k2 : (kind == 2) = false := by simpa using h2
  simp only [spec_Receive.P7, k2, cond_false, if_neg h2]
  by_cases h3 : kind = 3
  · subst h3
    simp only [spec_Receive.P6, beq_self_eq_true, cond_true, spec_askAppend id term vote role lead clk li votes peers h.base h.ar, Option.bind_some, if_true]
    have hcf : (askAppendM id term vote role lead conf s t es com clk li votes peers mfrom mterm mindex mlt mcom mes).1.2.2.2.2.2.1 = conf := by
      unfold askAppendM tailM
      split
      · rfl
      · split
        · split <;> rfl
        · rfl
    rw [hcf]
  have k3 : (kind == 3) = false := by simpa using h3
  have hP2 : ∀ (m : T_impl_Message) (r : T_spec_l18Run) (a : Int) (b : Bool), spec_Receive.P2 (((), (), (), a, b, ()), (m, z, r, ())) = some (((), (), (), a, b || a == 6, ()), (m, z, r, ())) := by
    intro m r a b; cases b <;> rfl
  simp only [spec_Receive.P6, k3, cond_false, if_neg h3, hP2, Option.bind_some]
  by_cases h5 : kind = 5
  · subst h5
    have hge : decide (mterm ≥ term) = (mterm == term) := by
      have := h.le
      by_cases h : mterm = term
      · simp [h]
      · have : ¬ (mterm ≥ term) := by omega
        simp [h, this]
    simp only [show (((5 : Int) == 4) || ((5 : Int) == 6)) = false from rfl, spec_Receive.P5, cond_false, spec_Receive.P4, beq_self_eq_true, cond_true, hge, spec_Receive.P3, if_true]
    cases mterm == term <;> rfl
  have k5 : (kind == 5) = false := by simpa using h5
  have k46 : ((kind == 4) || (kind == 6)) = true := by
    have : kind = 4 ∨ kind = 6 := by omega
    simpa using this
  simp only [k46, spec_Receive.P5, cond_true, if_neg h5, spec_reply id term vote role lead clk li votes h.base h.peers h.ar.ix (show kind = 4 ∨ kind = 6 by omega) hc6, Option.bind_some]
  have hcf : (replyM id term vote role lead conf s t es com clk li votes peers kind mfrom mterm mindex mcom mok).1.2.2.2.2.2.1 = conf := by
    unfold replyM
    split
    · split
      · rfl
      · cases mok <;> rfl
    · rfl
  rw [hcf]

end Go.Proofs.YtnnnpppodblblaaGreat.Pu
/-
Plain laws: Receive.
-/
namespace Go.Proofs.YtnnnpppodblblaaGreat.Pu
open Go Go.Proofs.YtnnnpppodblblaaGreat.Ev

theorem msgTerms_ge : ∀ (l : List T_impl_Entry) (mt t : Int), msgTerms mt t l = true → ∀ e, e ∈ l → t ≤ e.1 := by
  intro l
  induction l with
  | nil => intro mt t _ e he; simp at he
  | cons x r ih =>
    intro mt t h e he
    simp only [msgTerms, msgE, Bool.and_eq_true, decide_eq_true_eq] at h
    rcases List.mem_cons.1 he with rfl | he
    · exact h.1.2.1
    · have := ih mt x.1 h.2 e he; omega

theorem msgTerms_le : ∀ (l : List T_impl_Entry) (mt t : Int), msgTerms mt t l = true → ∀ e, e ∈ l → e.1 ≤ mt := by
  intro l
  induction l with
  | nil => intro mt t _ e he; simp at he
  | cons x r ih =>
    intro mt t h e he
    simp only [msgTerms, msgE, Bool.and_eq_true, decide_eq_true_eq] at h
    rcases List.mem_cons.1 he with rfl | he
    · exact h.1.2.2
    · exact ih mt x.1 h.2 e he

theorem messageOk_ar {kind mfrom mto mterm mindex mlt mcom : Int} {mok : Bool} {mes : List T_impl_Entry} {mconf : List Int} {mdata : ByteArray} {mlast : Bool} (hs : SmL mes)
    (h : messageOk (kind, mfrom, mto, mterm, mindex, mlt, mcom, mok, mes, mconf, mdata, mlast, ()) = true) :
    AR kind mfrom mto mterm mindex mlt mcom mes ∧ (1 ≤ kind ∧ kind ≤ 6) ∧ (1 ≤ mfrom ∧ mfrom ≤ 4) ∧ (1 ≤ mto ∧ mto ≤ 4) ∧ mfrom ≠ mto ∧ (0 ≤ mterm ∧ mterm ≤ 100000) := by
  simp only [messageOk, Bool.and_eq_true, inR_iff, decide_eq_true_eq, bne_iff_ne] at h
  obtain ⟨h1, h2, h3, h4, h5, h6, h7, h8, h9, h10, h11, h12⟩ := h
  exact ⟨⟨hs, h9, fun e he => by have := msgTerms_ge mes mterm mlt h11 e he; omega, fun e he => msgTerms_le mes mterm mlt h11 e he, h6.1, h7, h8⟩, h1, h2, h3, h4, h5⟩

def recvM (n : T_impl_Node) (m : T_impl_Message) : T_impl_Node × List T_impl_Message :=
  match n, m with
  | (id, term, vote, role, lead, conf, s, t, es, com, clk, li, votes, peers, _), (kind, mfrom, mto, mterm, mindex, mlt, mcom, mok, mes, _) =>
    if mterm > term then takeM id mterm 0 0 0 conf s t es com clk li [] [] kind mfrom mterm mindex mlt mcom mok mes
    else takeM id term vote role lead conf s t es com clk li votes peers kind mfrom mterm mindex mlt mcom mok mes

theorem tr_up {id term vote role lead : Int} {conf : List Int} {s t : Int} {es : List T_impl_Entry} {com clk li : Int} {votes : List Int} {peers : List T_impl_Peer} {kind mfrom mto mterm mindex mlt mcom : Int} {mok : Bool} {mes : List T_impl_Entry} {mconf : List Int} {mdata : ByteArray} {mlast : Bool}
    (h : nodeOk (id, term, vote, role, lead, conf, s, t, es, com, clk, li, votes, peers, ()) = true) (hs : SmL mes) (hm : messageOk (kind, mfrom, mto, mterm, mindex, mlt, mcom, mok, mes, mconf, mdata, mlast, ()) = true) (hlt : mterm > term) :
    TR id mterm 0 conf s t es com [] [] kind mfrom mto mterm mindex mlt mcom mes := by
  obtain ⟨hB, _⟩ := nodeOk_iff.1 h
  obtain ⟨h1, h2, h3, h4, h5, h6⟩ := messageOk_ar hs hm
  exact ⟨hB.up (by omega) (by omega), rfl, by simp [peersOk, ids], h1, h2, h3, Int.le_refl _⟩

theorem tr_same {id term vote role lead : Int} {conf : List Int} {s t : Int} {es : List T_impl_Entry} {com clk li : Int} {votes : List Int} {peers : List T_impl_Peer} {kind mfrom mto mterm mindex mlt mcom : Int} {mok : Bool} {mes : List T_impl_Entry} {mconf : List Int} {mdata : ByteArray} {mlast : Bool}
    (h : nodeOk (id, term, vote, role, lead, conf, s, t, es, com, clk, li, votes, peers, ()) = true) (hs : SmL mes) (hm : messageOk (kind, mfrom, mto, mterm, mindex, mlt, mcom, mok, mes, mconf, mdata, mlast, ()) = true) (hlt : ¬ mterm > term) :
    TR id term role conf s t es com votes peers kind mfrom mto mterm mindex mlt mcom mes := by
  obtain ⟨hB, hv, hle, hr, hck, hli, hvs, _, hps⟩ := nodeOk_iff.1 h
  obtain ⟨h1, h2, h3, h4, h5, h6⟩ := messageOk_ar hs hm
  exact ⟨hB, hvs, hps, h1, h2, h3, by omega⟩

theorem takeM_conf (id term vote role lead : Int) (conf : List Int) (s t : Int) (es : List T_impl_Entry) (com clk li : Int) (votes : List Int) (peers : List T_impl_Peer) (kind mfrom mterm mindex mlt mcom : Int) (mok : Bool) (mes : List T_impl_Entry) :
    (takeM id term vote role lead conf s t es com clk li votes peers kind mfrom mterm mindex mlt mcom mok mes).1.2.2.2.2.2.1 = conf := by
  unfold takeM
  split
  · rfl
  · split
    · unfold tellVoteM
      cases (!mok || (mterm != term || role != 1)) <;> cases most (confNow conf es) (nextVotes votes mfrom) <;> rfl
    · split
      · unfold askAppendM tailM
        split
        · rfl
        · split
          · split <;> rfl
          · rfl
      · split
        · cases mterm == term <;> rfl
        · unfold replyM
          split
          · split
            · rfl
            · cases mok <;> rfl
          · rfl

theorem impl_receive {id term vote role lead : Int} {conf : List Int} {s t : Int} {es : List T_impl_Entry} {com clk li : Int} {votes : List Int} {peers : List T_impl_Peer} {kind mfrom mto mterm mindex mlt mcom : Int} {mok : Bool} {mes : List T_impl_Entry} {mconf : List Int} {mdata : ByteArray} {mlast : Bool}
    (h : nodeOk (id, term, vote, role, lead, conf, s, t, es, com, clk, li, votes, peers, ()) = true) (hs : SmL mes) (hmc : mconf.length ≤ maxLen) :
    impl_Receive.f (id, term, vote, role, lead, conf, s, t, es, com, clk, li, votes, peers, ()) (kind, mfrom, mto, mterm, mindex, mlt, mcom, mok, mes, mconf, mdata, mlast, ()) =
      some (bif messageOk (kind, mfrom, mto, mterm, mindex, mlt, mcom, mok, mes, mconf, mdata, mlast, ()) && mto == id then
        ((recvM (id, term, vote, role, lead, conf, s, t, es, com, clk, li, votes, peers, ()) (kind, mfrom, mto, mterm, mindex, mlt, mcom, mok, mes, mconf, mdata, mlast, ())).1, (recvM (id, term, vote, role, lead, conf, s, t, es, com, clk, li, votes, peers, ()) (kind, mfrom, mto, mterm, mindex, mlt, mcom, mok, mes, mconf, mdata, mlast, ())).2, true, ())
        else (Z_impl_Node, [], false, ()), ()) := by
  obtain ⟨hB, hv, hle, hr, hck, hli, hvs, _, hps⟩ := nodeOk_iff.1 h
  have hcl := confOk_len hB.confR
  have hcn := confOk_len (confNow_ok es hB.confR)
  have hpl := peersOk_len hps
  have hvl := rise_len4 hvs
  have hC := hB.cr (peers := peers) (by omega)
  have a2 := hC.lr.len
  simp only [impl_Receive.f, impl_Receive.P0, impl_nodeOk_eq id term vote role lead conf s t es com clk li votes peers hC.sm (by rw [maxLen_eq]; omega) (by rw [maxLen_eq]; omega) (by unfold big; omega), h, Option.bind_some, Bool.not_true, cond_false, impl_messageOk_eq kind mfrom mto mterm mindex mlt mcom mok mes mconf mdata mlast hs hmc]
  cases hm : messageOk (kind, mfrom, mto, mterm, mindex, mlt, mcom, mok, mes, mconf, mdata, mlast, ()) with
  | false => rfl
  | true =>
    simp only [Bool.not_true, cond_false, Option.bind_some, Bool.true_and]
    cases hto : mto == id with
    | false => rw [bne, hto]; rfl
    | true =>
      rw [bne, hto]
      simp only [Bool.not_true, cond_false, cond_true, copyNode_eq id term vote role lead (conf := conf) s t (es := es) com clk li (votes := votes) (peers := peers) (by omega) (by omega) (by omega) (by omega), Option.bind_some, recvM]
      by_cases hx : mterm > term
      · have hT := tr_up h hs hm hx
        simp only [impl_Receive.P1, decide_eq_true hx, cond_true, impl_follow_eq, Option.bind_some, if_pos hx]
        simp only [impl_take id mterm 0 0 0 clk li hT, Option.bind_some]
        have := takeM_conf id mterm 0 0 0 conf s t es com clk li [] [] kind mfrom mterm mindex mlt mcom mok mes
        generalize takeM id mterm 0 0 0 conf s t es com clk li [] [] kind mfrom mterm mindex mlt mcom mok mes = r at *
        obtain ⟨⟨b1, b2, b3, b4, b5, b6, b7, b8, b9, b10, b11, b12, b13, b14, ⟨⟩⟩, told⟩ := r
        simp only at this
        subst this
        rfl
      · have hT := tr_same h hs hm hx
        simp only [impl_Receive.P1, decide_eq_false hx, cond_false, Option.bind_some, if_neg hx, impl_take id term vote role lead clk li hT]
        have := takeM_conf id term vote role lead conf s t es com clk li votes peers kind mfrom mterm mindex mlt mcom mok mes
        generalize takeM id term vote role lead conf s t es com clk li votes peers kind mfrom mterm mindex mlt mcom mok mes = r at *
        obtain ⟨⟨b1, b2, b3, b4, b5, b6, b7, b8, b9, b10, b11, b12, b13, b14, ⟨⟩⟩, told⟩ := r
        simp only at this
        subst this
        rfl

theorem spec_receive {id term vote role lead : Int} {conf : List Int} {s t : Int} {es : List T_impl_Entry} {com clk li : Int} {votes : List Int} {peers : List T_impl_Peer} {kind mfrom mto mterm mindex mlt mcom : Int} {mok : Bool} {mes : List T_impl_Entry} {mconf : List Int} {mdata : ByteArray} {mlast : Bool}
    (h : nodeOk (id, term, vote, role, lead, conf, s, t, es, com, clk, li, votes, peers, ()) = true) (hs : SmL mes) (hmc : mconf.length ≤ maxLen) (hc6 : kind = 6 → mcom ≤ 20000) :
    spec_Receive.f (id, term, vote, role, lead, conf, s, t, es, com, clk, li, votes, peers, ()) (kind, mfrom, mto, mterm, mindex, mlt, mcom, mok, mes, mconf, mdata, mlast, ()) =
      some (bif messageOk (kind, mfrom, mto, mterm, mindex, mlt, mcom, mok, mes, mconf, mdata, mlast, ()) && mto == id then
        ((recvM (id, term, vote, role, lead, conf, s, t, es, com, clk, li, votes, peers, ()) (kind, mfrom, mto, mterm, mindex, mlt, mcom, mok, mes, mconf, mdata, mlast, ())).1, (recvM (id, term, vote, role, lead, conf, s, t, es, com, clk, li, votes, peers, ()) (kind, mfrom, mto, mterm, mindex, mlt, mcom, mok, mes, mconf, mdata, mlast, ())).2, true, ())
        else (Z_impl_Node, [], false, ()), ()) := by
  obtain ⟨hB, hv, hle, hr, hck, hli, hvs, _, hps⟩ := nodeOk_iff.1 h
  have hcl := confOk_len hB.confR
  have hcn := confOk_len (confNow_ok es hB.confR)
  have hpl := peersOk_len hps
  have hvl := rise_len4 hvs
  have hC := hB.cr (peers := peers) (by omega)
  have a2 := hC.lr.len
  simp only [spec_Receive.f, spec_Receive.P0, spec_nodeOk_eq id term vote role lead conf s t es com clk li votes peers hC.sm (by rw [maxLen_eq]; omega) (by rw [maxLen_eq]; omega), h, Option.bind_some, Bool.not_true, cond_false, spec_messageOk_eq kind mfrom mto mterm mindex mlt mcom mok mes mconf mdata mlast hs hmc]
  cases hm : messageOk (kind, mfrom, mto, mterm, mindex, mlt, mcom, mok, mes, mconf, mdata, mlast, ()) with
  | false => rfl
  | true =>
    simp only [Bool.not_true, cond_false, Option.bind_some, Bool.true_and]
    cases hto : mto == id with
    | false => rw [bne, hto]; rfl
    | true =>
      rw [bne, hto]
      simp only [Bool.not_true, cond_false, cond_true, l18Copy_eq id term vote role lead (conf := conf) s t (es := es) com clk li (votes := votes) (peers := peers) (by omega) (by omega) (by omega) (by omega), Option.bind_some, recvM]
      by_cases hx : mterm > term
      · have hT := tr_up h hs hm hx
        simp only [spec_Receive.P1, decide_eq_true hx, cond_true, follow_eq, Option.bind_some, if_pos hx]
        simp only [spec_take Z_impl_Node id mterm 0 0 0 clk li hT hc6, Option.bind_some]
      · have hT := tr_same h hs hm hx
        simp only [spec_Receive.P1, decide_eq_false hx, cond_false, Option.bind_some, if_neg hx, spec_take Z_impl_Node id term vote role lead clk li hT hc6]

end Go.Proofs.YtnnnpppodblblaaGreat.Pu
/-
Plain laws: what is right stays right.
-/
namespace Go.Proofs.YtnnnpppodblblaaGreat.Pu
open Go Go.Proofs.YtnnnpppodblblaaGreat.Ev

/-- A message that can be taken: it is small. -/
structure MsgR (m : T_impl_Message) : Prop where
  sm : SmL m.2.2.2.2.2.2.2.2.1
  conf : m.2.2.2.2.2.2.2.2.2.1.length ≤ 1000
  to : 1 ≤ m.2.2.1 ∧ m.2.2.1 ≤ 4
  six : m.1 = 6 → 0 ≤ m.2.2.2.2.2.2.1 ∧ m.2.2.2.2.2.2.1 ≤ 20000

/-- What is told. -/
structure ToldR (told : List T_impl_Message) : Prop where
  len : told.length ≤ 1000
  all : ∀ m, m ∈ told → MsgR m

theorem ToldR.nil : ToldR [] := ⟨by simp, fun m hm => by simp at hm⟩
theorem ToldR.one {m : T_impl_Message} (h : MsgR m) : ToldR [m] := ⟨by simp, fun x hx => by
  obtain rfl := List.mem_singleton.1 hx
  exact h⟩

/-- What a node is behind a step, to what it was. -/
structure Good (id term vote s : Int) (es : List T_impl_Entry) (com : Int) (x : T_impl_Node) (told : List T_impl_Message) : Prop where
  ok : nodeOk x = true
  idE : x.1 = id
  termG : term ≤ x.2.1
  voteE : x.2.1 = term → vote ≠ 0 → x.2.2.1 = vote
  start : x.2.2.2.2.2.2.1 = s
  comG : com ≤ x.2.2.2.2.2.2.2.2.2.1
  kept : ∀ k : Nat, s + (k : Int) < com → x.2.2.2.2.2.2.2.2.1[k]? = es[k]?
  toldE : ToldR told

theorem others_in {l : List Int} {id x : Int} (h : rise 1 4 none l = true) (hx : x ∈ others l id) : 1 ≤ x ∧ x ≤ 4 := by
  have h1 : x ∈ l := (List.mem_filter.1 hx).1
  have : ∀ l ∈ rows4, ∀ x ∈ l, 1 ≤ x ∧ x ≤ 4 := by decide
  exact this l (rise_rows h) x h1

theorem conf_rise {l : List Int} (h : confOk l = true) : rise 1 4 none l = true := by
  simp only [confOk, Bool.and_eq_true] at h; exact h.2

theorem ids_in {id last role : Int} {conf : List Int} {peers : List T_impl_Peer} (h : peersOk id last role conf peers = true) (hc : confOk conf = true) {p : T_impl_Peer} (hp : p ∈ peers) : 1 ≤ p.1 ∧ p.1 ≤ 4 := by
  have h1 := (peersOk_iff.1 h).1
  have h2 : p.1 ∈ ids peers := List.mem_map.2 ⟨p, hp, rfl⟩
  rw [h1] at h2
  split at h2
  · exact others_in (conf_rise hc) h2
  · simp at h2

theorem sendM_r {id term : Int} {conf : List Int} {s t : Int} {es : List T_impl_Entry} {com : Int} {p : T_impl_Peer} (hs : SmL es) (hl : es.length ≤ 1000) (hc : conf.length ≤ 1000) (hp : 1 ≤ p.1 ∧ p.1 ≤ 4) : MsgR (sendM id term conf s t es com p) := by
  unfold sendM
  split
  · exact ⟨⟨by simp, fun e he => by simp at he⟩, hc, hp, fun h => by simp at h⟩
  · refine ⟨⟨?_, fun e he => hs.els e (List.mem_of_mem_drop (List.mem_of_mem_take he))⟩, by simp, hp, fun h => by simp at h⟩
    have : ((es.drop (p.2.1 - 1 - s).toNat).take 4).length ≤ 4 := List.length_take_le _ _
    exact Nat.le_trans this (by decide)

theorem voteMsg_r {id term mfrom : Int} {ok : Bool} (h : 1 ≤ mfrom ∧ mfrom ≤ 4) : MsgR (voteMsg id term mfrom ok) :=
  ⟨⟨by simp [voteMsg], fun e he => by simp [voteMsg] at he⟩, by simp [voteMsg], h, fun h => by simp [voteMsg] at h⟩

theorem ack_r {id term mfrom index : Int} {ok : Bool} (h : 1 ≤ mfrom ∧ mfrom ≤ 4) : MsgR (ack id term mfrom ok index) :=
  ⟨⟨by simp [ack], fun e he => by simp [ack] at he⟩, by simp [ack], h, fun h => by simp [ack] at h⟩

theorem askM_r {id term last lt x : Int} (h : 1 ≤ x ∧ x ≤ 4) : MsgR (askM id term last lt x) :=
  ⟨⟨by simp [askM], fun e he => by simp [askM] at he⟩, by simp [askM], h, fun h => by simp [askM] at h⟩

/-- Commit keeps a node right. -/
theorem comM_ok {id term vote role lead : Int} {conf : List Int} {s t : Int} {es : List T_impl_Entry} {com clk li : Int} {votes : List Int} {peers : List T_impl_Peer}
    (h : nodeOk (id, term, vote, role, lead, conf, s, t, es, com, clk, li, votes, peers, ()) = true) : nodeOk (comM id term vote role lead conf s t es com clk li votes peers) = true := by
  obtain ⟨hB, hv, hle, hr, hck, hli, hvs, hvr, hps⟩ := nodeOk_iff.1 h
  have hge := newCom_ge (id := id) (term := term) (conf := confNow conf es) (t := t) (peers := peers) hB.cm
  unfold comM
  generalize newCom id term (confNow conf es) s t es com peers = c at *
  simp only
  rw [nodeOk_iff]
  have hB' : Base id term conf s t es c := ⟨hB.idR, hB.termR, hB.confR, hB.logR, hB.lastR, by have := hB.cm; omega⟩
  cases drops id role (confNow conf es) s es c with
  | true => exact ⟨hB', hv, by simp, by simp, hck, hli, rfl, .inl rfl, by simp [peersOk, ids]⟩
  | false => exact ⟨hB', hv, hle, hr, hck, hli, hvs, hvr, hps⟩

theorem newPeers_ok {id last last' : Int} {conf : List Int} (h : 0 ≤ last ∧ last ≤ last') : peersOk id last' 2 conf (newPeers id last conf) = true := by
  rw [peersOk_iff]
  refine ⟨by rw [if_pos rfl, ids, newPeers, List.map_map]; exact List.map_id' _, fun p hp => ?_⟩
  simp only [newPeers, List.mem_map] at hp
  obtain ⟨x, _, rfl⟩ := hp
  simp only [peerOk, Bool.and_eq_true, inR_iff]
  omega

theorem leadM_ok {id term vote : Int} {conf : List Int} {s t : Int} {es : List T_impl_Entry} {com clk li : Int} (h : Base id term conf s t es com) (hv : 0 ≤ vote ∧ vote ≤ 4) (hck : 0 ≤ clk ∧ clk ≤ 20) (hli : 1 ≤ li ∧ li ≤ 20) :
    nodeOk (leadM id term vote conf s t es com clk li) = true := by
  unfold leadM
  have hw := withNone_len term s es
  have hl := logOk_iff.1 h.logR
  refine comM_ok (nodeOk_iff.2 ⟨h.none, hv, by have := h.idR; omega, by omega, hck, hli, rfl, .inl rfl, ?_⟩)
  rw [confNow_none]
  exact newPeers_ok (by omega)

theorem withNone_get {term s : Int} {es : List T_impl_Entry} {k : Nat} (h : k < es.length) : (withNone term s es)[k]? = es[k]? := by
  unfold withNone
  cases room s es with
  | false => rfl
  | true => simp only [cond_true]; exact List.getElem?_append_left h

theorem toldM_r {n : T_impl_Node} (h : nodeOk n = true) : ToldR (toldM n) := by
  obtain ⟨id, term, vote, role, lead, conf, s, t, es, com, clk, li, votes, peers, ⟨⟩⟩ := n
  obtain ⟨hB, hv, hle, hr, hck, hli, hvs, hvr, hps⟩ := nodeOk_iff.1 h
  have hC := hB.cr (peers := []) (by simp)
  refine ⟨by have := peersOk_len hps; have := hC.now; simp only [toldM, sendAllM, List.length_map]; omega, ?_⟩
  intro m hm
  simp only [toldM, sendAllM, List.mem_map] at hm
  obtain ⟨p, hp, rfl⟩ := hm
  exact sendM_r hC.sm (by have := hC.lr.len; omega) hC.cl (ids_in hps (confNow_ok es hB.confR) hp)

theorem leadM_good {id term term0 vote vote0 : Int} {conf : List Int} {s t : Int} {es : List T_impl_Entry} {com clk li : Int} (h : Base id term conf s t es com) (hv : 0 ≤ vote ∧ vote ≤ 4) (hck : 0 ≤ clk ∧ clk ≤ 20) (hli : 1 ≤ li ∧ li ≤ 20)
    (ht : term0 ≤ term) (hvt : term = term0 → vote0 ≠ 0 → vote = vote0) : Good id term0 vote0 s es com (leadM id term vote conf s t es com clk li) (toldM (leadM id term vote conf s t es com clk li)) := by
  have hok := leadM_ok (vote := vote) (clk := clk) (li := li) h hv hck hli
  have hcm := h.cm
  refine ⟨hok, rfl, ht, hvt, rfl, ?_, ?_, toldM_r hok⟩
  · have hw := withNone_len term s es
    exact (newCom_ge (id := id) (term := term) (conf := confNow conf (withNone term s es)) (s := s) (t := t) (es := withNone term s es) (com := com) (peers := newPeers id (s + (es.length : Int)) (confNow conf es)) (by omega)).1
  · intro k hk
    exact withNone_get (by omega)

theorem nodeOk_good {id term vote role lead : Int} {conf : List Int} {s t : Int} {es : List T_impl_Entry} {com clk li : Int} {votes : List Int} {peers : List T_impl_Peer} {term0 vote0 : Int} {told : List T_impl_Message}
    (h : nodeOk (id, term, vote, role, lead, conf, s, t, es, com, clk, li, votes, peers, ()) = true) (ht : term0 ≤ term) (hvt : term = term0 → vote0 ≠ 0 → vote = vote0) (htl : ToldR told) :
    Good id term0 vote0 s es com (id, term, vote, role, lead, conf, s, t, es, com, clk, li, votes, peers, ()) told :=
  ⟨h, rfl, ht, hvt, rfl, Int.le_refl _, fun _ _ => rfl, htl⟩

/-- A tick keeps a node right. -/
theorem tickM_good {id term vote role lead : Int} {conf : List Int} {s t : Int} {es : List T_impl_Entry} {com clk li : Int} {votes : List Int} {peers : List T_impl_Peer} {limit : Int}
    (h : nodeOk (id, term, vote, role, lead, conf, s, t, es, com, clk, li, votes, peers, ()) = true) (hl : 1 ≤ limit ∧ limit ≤ 20) :
    Good id term vote s es com (tickM (id, term, vote, role, lead, conf, s, t, es, com, clk, li, votes, peers, ()) limit).1 (tickM (id, term, vote, role, lead, conf, s, t, es, com, clk, li, votes, peers, ()) limit).2 := by
  obtain ⟨hB, hv, hle, hr, hck, hli, hvs, hvr, hps⟩ := nodeOk_iff.1 h
  unfold tickM
  simp only
  by_cases h2 : role = 2
  · rw [if_pos h2]
    exact nodeOk_good h (Int.le_refl _) (fun _ _ => rfl) (toldM_r h)
  rw [if_neg h2]
  by_cases h3 : clk + 1 < li
  · rw [if_pos h3]
    exact nodeOk_good (nodeOk_iff.2 ⟨hB, hv, hle, hr, by omega, hli, hvs, hvr, hps⟩) (Int.le_refl _) (fun _ _ => rfl) ToldR.nil
  rw [if_neg h3]
  by_cases h4 : term = 100000 ∨ ¬ id ∈ confNow conf es
  · rw [if_pos h4]
    exact nodeOk_good (nodeOk_iff.2 ⟨hB, hv, hle, hr, by omega, hl, hvs, hvr, hps⟩) (Int.le_refl _) (fun _ _ => rfl) ToldR.nil
  rw [if_neg h4]
  have htr := hB.termR
  have hbu := hB.up (term' := term + 1) (by omega) (by omega)
  have hid := hB.idR
  unfold standM
  cases most (confNow conf es) [id] with
  | true => exact leadM_good hbu (by omega) (by omega) hl (by omega) (fun e => by omega)
  | false =>
    refine nodeOk_good (nodeOk_iff.2 ⟨hbu, by omega, by omega, by omega, by omega, hl, ?_, .inr rfl, ?_⟩) (by omega) (fun e => by omega) ⟨?_, fun m hm => ?_⟩
    · simp [rise, inR]; omega
    · rw [peersOk_iff] at hps ⊢
      rw [if_neg h2] at hps
      exact hps
    · have := others_len (confNow conf es) id
      have := confOk_len (confNow_ok es hB.confR)
      simp only [cond_false, List.length_map]; omega
    · simp only [cond_false, List.mem_map] at hm
      obtain ⟨x, hx, rfl⟩ := hm
      exact askM_r (others_in (conf_rise (confNow_ok es hB.confR)) hx)

end Go.Proofs.YtnnnpppodblblaaGreat.Pu
/-
Plain laws: what is right stays right when a message comes.
-/
namespace Go.Proofs.YtnnnpppodblblaaGreat.Pu
open Go Go.Proofs.YtnnnpppodblblaaGreat.Ev

theorem okPeer_ok {last kind mindex : Int} {p : T_impl_Peer} (hl : 0 ≤ last) (h : peerOk last p = true) (hi : 0 ≤ mindex) : peerOk last (okPeer last kind mindex p) = true := by
  have h1 := okPeer_next (kind := kind) hl h hi
  simp only [peerOk, Bool.and_eq_true, inR_iff] at h ⊢
  refine ⟨h1, ?_, ?_⟩
  · simp only [okPeer, maxI, minI]
    split <;> split <;> omega
  · simp only [okPeer]
    cases kind == 6
    · exact h.2.2
    · simp

theorem noPeer_ok {last s kind mindex mcom : Int} {p : T_impl_Peer} (h : peerOk last p = true) (hi : 0 ≤ mindex) (hc6 : kind = 6 → 0 ≤ mcom ∧ mcom ≤ 20000) : peerOk last (noPeer s kind mindex mcom p) = true := by
  have h1 := noPeer_next (s := s) (kind := kind) (mcom := mcom) h hi
  simp only [peerOk, Bool.and_eq_true, inR_iff] at h ⊢
  refine ⟨h1, ?_⟩
  unfold noPeer at h1 ⊢
  cases hb : kind == 6 with
  | true =>
    have := hc6 (eq_of_beq hb)
    rw [hb] at h1
    simp only [cond_true] at h1 ⊢
    refine ⟨h.2.1, ?_⟩
    cases mindex == s
    · simp
    · exact this
  | false =>
    rw [hb] at h1
    simp only [cond_false, maxI, minI] at h1 ⊢
    refine ⟨?_, h.2.2⟩
    split <;> split <;> omega

theorem set_peersOk {id last role : Int} {conf : List Int} {peers : List T_impl_Peer} {k : Nat} (hk : k < peers.length) {q : T_impl_Peer} (h : peersOk id last role conf peers = true) (hq1 : q.1 = peers[k].1) (hq2 : peerOk last q = true) : peersOk id last role conf (peers.set k q) = true := by
  rw [peersOk_iff] at h ⊢
  constructor
  · rw [← h.1]
    unfold ids
    rw [List.map_set, hq1]
    apply List.ext_getElem
    · simp
    · intro i h1 h2
      rw [List.getElem_set]
      split
      · rename_i e; subst e; simp
      · rfl
  · intro p hp
    rcases List.mem_or_eq_of_mem_set hp with hp | rfl
    · exact h.2 p hp
    · exact hq2

theorem lastTerm_le {t : Int} {es : List T_impl_Entry} {b : Int} (h1 : t ≤ b) (h2 : ∀ e, e ∈ es → e.1 ≤ b) : lastTerm t es ≤ b := by
  unfold lastTerm
  cases h : es.getLast? with
  | none => exact h1
  | some e => exact h2 e (List.mem_of_getLast? h)

theorem lastTerm_app {t : Int} {a b : List T_impl_Entry} (h : b ≠ []) : lastTerm t (a ++ b) = lastTerm t b := by
  unfold lastTerm
  rw [List.getLast?_append]
  cases hb : b.getLast? with
  | none => rw [List.getLast?_eq_none_iff] at hb; exact absurd hb h
  | some e => rfl

/-- The log with what comes is right, and keeps what is agreed. -/
theorem merge_ok {id term : Int} {conf : List Int} {s t : Int} {es : List T_impl_Entry} {com : Int} (h : Base id term conf s t es com) {idx : Int} {ents : List T_impl_Entry} (hlt : s ≤ idx ∧ idx ≤ s + (es.length : Int))
    (hpos : ∀ e, e ∈ ents → 0 ≤ e.1) (htop : ∀ e, e ∈ ents → e.1 ≤ term) (hok : mergeOk s t es com idx ents = true) :
    logOk (s, t, mergeM s t es idx ents, ()) = true ∧ lastTerm t (mergeM s t es idx ents) ≤ term ∧ com ≤ s + ((mergeM s t es idx ents).length : Int) ∧ idx + (ents.length : Int) ≤ s + ((mergeM s t es idx ents).length : Int) ∧ ∀ k : Nat, s + (k : Int) < com → (mergeM s t es idx ents)[k]? = es[k]? := by
  have hcm := h.cm
  have hge := matchN_ge s t es idx ents 0
  have hmi := matchN_in (s := s) (t := t) (es := es) (idx := idx) ents 0 hpos (by omega) (by omega)
  unfold mergeOk at hok
  by_cases hk : matchN s t es idx 0 ents < ents.length
  · simp only [hk, not_true, decide_false, Bool.false_or, Bool.and_eq_true, decide_eq_true_eq] at hok
    obtain ⟨h1, h2⟩ := hok
    refine ⟨h2, ?_⟩
    have hlen : (mergeM s t es idx ents).length = (idx + (matchN s t es idx 0 ents : Int) - s).toNat + (ents.length - matchN s t es idx 0 ents) := by
      unfold mergeM
      rw [if_pos hk, List.length_append, List.length_take, List.length_drop]
      omega
    refine ⟨?_, by rw [hlen]; omega, by rw [hlen]; omega, fun k hkk => ?_⟩
    · unfold mergeM
      rw [if_pos hk, lastTerm_app (by rw [Ne, ← List.length_eq_zero_iff, List.length_drop]; omega)]
      cases hd : ents.drop (matchN s t es idx 0 ents) with
      | nil => rw [← List.length_eq_zero_iff, List.length_drop] at hd; omega
      | cons x r =>
        have hx : ∀ e, e ∈ x :: r → e.1 ≤ term := fun e he => htop e (List.mem_of_mem_drop (by rw [hd]; exact he))
        unfold lastTerm
        rw [List.getLast?_cons]
        cases hr : r.getLast? with
        | none => exact hx x (by simp)
        | some e => exact hx e (by simp [List.mem_of_getLast? hr])
    · unfold mergeM
      rw [if_pos hk, List.getElem?_append_left (by rw [List.length_take]; omega), List.getElem?_take_of_lt (by omega)]
  · have hm : mergeM s t es idx ents = es := by unfold mergeM; rw [if_neg hk]
    rw [hm]
    exact ⟨h.logR, h.lastR, hcm.2, by omega, fun _ _ => rfl⟩

theorem takeM_good {id term vote role lead : Int} {conf : List Int} {s t : Int} {es : List T_impl_Entry} {com clk li : Int} {votes : List Int} {peers : List T_impl_Peer} {kind mfrom mto mterm mindex mlt mcom : Int} {mok : Bool} {mes : List T_impl_Entry} {term0 vote0 : Int}
    (h : nodeOk (id, term, vote, role, lead, conf, s, t, es, com, clk, li, votes, peers, ()) = true) (hT : TR id term role conf s t es com votes peers kind mfrom mto mterm mindex mlt mcom mes) (hc6 : kind = 6 → 0 ≤ mcom ∧ mcom ≤ 20000)
    (ht : term0 ≤ term) (hvt : term = term0 → vote0 ≠ 0 → vote = vote0) :
    Good id term0 vote0 s es com (takeM id term vote role lead conf s t es com clk li votes peers kind mfrom mterm mindex mlt mcom mok mes).1 (takeM id term vote role lead conf s t es com clk li votes peers kind mfrom mterm mindex mlt mcom mok mes).2 := by
  obtain ⟨hB, hv, hle, hr, hck, hli, hvs, hvr, hps⟩ := nodeOk_iff.1 h
  have hC := hB.cr (peers := []) (by simp)
  have a1 := hC.lr.s0; have a2 := hC.lr.len; have a3 := hC.lr.last
  have hk := hT.kind; have hf := hT.frm
  have nil_r : ToldR [] := ToldR.nil
  unfold takeM
  by_cases h1 : kind = 1
  · rw [if_pos h1]
    refine nodeOk_good (nodeOk_iff.2 ⟨hB, ?_, hle, hr, ?_, hli, hvs, hvr, hps⟩) ht ?_ ?_
    · cases grants term vote t s es mterm mfrom mlt mindex
      · exact hv
      · simp only [cond_true]; omega
    · cases grants term vote t s es mterm mfrom mlt mindex
      · exact hck
      · simp
    · intro e hne
      have hvv := hvt e hne
      cases hg : grants term vote t s es mterm mfrom mlt mindex with
      | false => exact hvv
      | true =>
        simp only [grants, Bool.and_eq_true, Bool.or_eq_true, beq_iff_eq] at hg
        simp only [cond_true]
        rcases hg.2.1 with h0 | h0
        · omega
        · omega
    · exact ToldR.one (voteMsg_r hf)
  rw [if_neg h1]
  by_cases h2 : kind = 2
  · rw [if_pos h2]
    unfold tellVoteM
    cases hb : (!mok || (mterm != term || role != 1)) with
    | true => exact nodeOk_good h ht hvt nil_r
    | false =>
      simp only [cond_false]
      cases most (confNow conf es) (nextVotes votes mfrom) with
      | true => exact leadM_good hB hv hck hli ht hvt
      | false =>
        have hr1 : role = 1 := by
          simp only [Bool.or_eq_false_iff, bne_eq_false_iff_eq] at hb
          exact hb.2.2
        exact nodeOk_good (nodeOk_iff.2 ⟨hB, hv, hle, hr, hck, hli, (nextVotes_eq hvs hf).2, .inr hr1, hps⟩) ht hvt nil_r
  rw [if_neg h2]
  by_cases h3 : kind = 3
  · rw [if_pos h3]
    unfold askAppendM
    by_cases hlt : mterm < term
    · rw [if_pos hlt]
      exact nodeOk_good h ht hvt (ToldR.one (ack_r hf))
    rw [if_neg hlt]
    have hfol : ∀ told, ToldR told → Good id term0 vote0 s es com (id, term, vote, 0, mfrom, conf, s, t, es, com, 0, li, [], [], ()) told := fun told htl =>
      nodeOk_good (nodeOk_iff.2 ⟨hB, hv, by omega, by omega, by omega, hli, rfl, .inl rfl, by simp [peersOk, ids]⟩) ht hvt htl
    have hLt0 : 0 ≤ adjLt s t mindex mlt := by have := hT.ar.lt0; have := logOk_iff.1 hB.logR; unfold adjLt; split <;> omega
    have hEp : ∀ e, e ∈ adjEnts s mindex mes → 0 ≤ e.1 := fun e he => hT.ar.pos e (adj_mem he)
    have hEt : ∀ e, e ∈ adjEnts s mindex mes → e.1 ≤ term := fun e he => by have := hT.ar.top e (adj_mem he); have := hT.le; omega
    generalize adjIdx s mindex = idx at *
    generalize adjLt s t mindex mlt = lt at *
    generalize adjEnts s mindex mes = ents at *
    have ackr : ∀ ok ix, ToldR [ack id term mfrom ok ix] := fun ok ix => ToldR.one (ack_r hf)
    unfold tailM
    by_cases htm : logTerm s t es idx = lt
    · rw [if_pos htm]
      have hin := logTerm_in (s := s) (t := t) (es := es) (i := idx) (by rw [htm]; exact hLt0)
      cases hok : mergeOk s t es com idx ents with
      | false => exact hfol _ (ackr _ _)
      | true =>
        obtain ⟨m1, m2, m3, m4, m5⟩ := merge_ok hB hin hEp hEt hok
        have hcm := hB.cm
        have hmax : com ≤ maxI com (minI mcom (idx + (ents.length : Int))) ∧ maxI com (minI mcom (idx + (ents.length : Int))) ≤ s + ((mergeM s t es idx ents).length : Int) := by
          unfold maxI minI
          split <;> split <;> omega
        refine ⟨nodeOk_iff.2 ⟨⟨hB.idR, hB.termR, hB.confR, m1, m2, by omega⟩, hv, by omega, by omega, by omega, hli, rfl, .inl rfl, by simp [peersOk, ids]⟩, rfl, ht, hvt, rfl, hmax.1, m5, ackr _ _⟩
    · rw [if_neg htm]
      exact hfol _ (ackr _ _)
  rw [if_neg h3]
  by_cases h5 : kind = 5
  · rw [if_pos h5]
    cases mterm == term with
    | false => exact nodeOk_good h ht hvt nil_r
    | true => exact nodeOk_good (nodeOk_iff.2 ⟨hB, hv, by omega, by omega, by omega, hli, rfl, .inl rfl, by simp [peersOk, ids]⟩) ht hvt nil_r
  rw [if_neg h5]
  unfold replyM
  by_cases hx : mterm = term ∧ role = 2
  · rw [if_pos hx]
    cases hat : atP mfrom peers with
    | none => exact nodeOk_good h ht hvt nil_r
    | some kk =>
      have hkl := atP_lt hat
      have hpk := (peersOk_iff.1 hps).2 _ (List.getElem_mem hkl)
      have egd : peers.getD kk Z_impl_Peer = peers[kk] := by simp [List.getD, List.getElem?_eq_getElem hkl]
      have hidp := ids_in hps (confNow_ok es hB.confR) (List.getElem_mem hkl)
      simp only [egd]
      cases mok with
      | true =>
        simp only [cond_true]
        have hps' := set_peersOk hkl hps (q := okPeer (s + (es.length : Int)) kind mindex peers[kk]) rfl (okPeer_ok (by omega) hpk hT.ar.ix.1)
        have hn' : nodeOk (id, term, vote, role, lead, conf, s, t, es, com, clk, li, votes, peers.set kk (okPeer (s + (es.length : Int)) kind mindex peers[kk]), ()) = true := nodeOk_iff.2 ⟨hB, hv, hle, hr, hck, hli, hvs, hvr, hps'⟩
        refine ⟨comM_ok hn', rfl, ht, hvt, rfl, (newCom_ge hB.cm).1, fun _ _ => rfl, ⟨?_, fun m hm => ?_⟩⟩
        · cases ((comM id term vote role lead conf s t es com clk li votes (peers.set kk (okPeer (s + (es.length : Int)) kind mindex peers[kk]))).2.2.2.1 == 2 && decide ((okPeer (s + (es.length : Int)) kind mindex peers[kk]).2.1 ≤ s + (es.length : Int))) <;> simp
        have hm' : m = sendM id term conf s t es (comM id term vote role lead conf s t es com clk li votes (peers.set kk (okPeer (s + (es.length : Int)) kind mindex peers[kk]))).2.2.2.2.2.2.2.2.2.1 (okPeer (s + (es.length : Int)) kind mindex peers[kk]) := by
          cases hcnd : ((comM id term vote role lead conf s t es com clk li votes (peers.set kk (okPeer (s + (es.length : Int)) kind mindex peers[kk]))).2.2.2.1 == 2 && decide ((okPeer (s + (es.length : Int)) kind mindex peers[kk]).2.1 ≤ s + (es.length : Int))) with
          | true => rw [hcnd] at hm; exact List.mem_singleton.1 hm
          | false => rw [hcnd] at hm; simp at hm
        rw [hm']
        exact sendM_r hC.sm (by omega) hC.cl hidp
      | false =>
        simp only [cond_false]
        have hps' := set_peersOk hkl hps (q := noPeer s kind mindex mcom peers[kk]) (by unfold noPeer; cases kind == 6 <;> rfl) (noPeer_ok hpk hT.ar.ix.1 hc6)
        refine nodeOk_good (nodeOk_iff.2 ⟨hB, hv, hle, hr, hck, hli, hvs, hvr, hps'⟩) ht hvt (ToldR.one ?_)
        exact sendM_r hC.sm (by omega) hC.cl (by unfold noPeer; cases kind == 6 <;> exact hidp)
  · rw [if_neg hx]
    exact nodeOk_good h ht hvt nil_r

theorem recvM_good {id term vote role lead : Int} {conf : List Int} {s t : Int} {es : List T_impl_Entry} {com clk li : Int} {votes : List Int} {peers : List T_impl_Peer} {kind mfrom mto mterm mindex mlt mcom : Int} {mok : Bool} {mes : List T_impl_Entry} {mconf : List Int} {mdata : ByteArray} {mlast : Bool}
    (h : nodeOk (id, term, vote, role, lead, conf, s, t, es, com, clk, li, votes, peers, ()) = true) (hm : MsgR (kind, mfrom, mto, mterm, mindex, mlt, mcom, mok, mes, mconf, mdata, mlast, ())) (hok : messageOk (kind, mfrom, mto, mterm, mindex, mlt, mcom, mok, mes, mconf, mdata, mlast, ()) = true) :
    Good id term vote s es com (recvM (id, term, vote, role, lead, conf, s, t, es, com, clk, li, votes, peers, ()) (kind, mfrom, mto, mterm, mindex, mlt, mcom, mok, mes, mconf, mdata, mlast, ())).1 (recvM (id, term, vote, role, lead, conf, s, t, es, com, clk, li, votes, peers, ()) (kind, mfrom, mto, mterm, mindex, mlt, mcom, mok, mes, mconf, mdata, mlast, ())).2 := by
  unfold recvM
  simp only
  by_cases hx : mterm > term
  · rw [if_pos hx]
    have hT := tr_up h hm.sm hok hx
    obtain ⟨hB, hv, hle, hr, hck, hli, hvs, hvr, hps⟩ := nodeOk_iff.1 h
    exact takeM_good (nodeOk_iff.2 ⟨hT.base, by omega, by omega, by omega, hck, hli, rfl, .inl rfl, hT.peers⟩) hT hm.six (by omega) (fun e => by omega)
  · rw [if_neg hx]
    exact takeM_good h (tr_same h hm.sm hok hx) hm.six (Int.le_refl _) (fun _ _ => rfl)

end Go.Proofs.YtnnnpppodblblaaGreat.Pu
/-
Plain laws: what is put to a leader; a log that is settled.
-/
namespace Go.Proofs.YtnnnpppodblblaaGreat.Pu
open Go Go.Proofs.YtnnnpppodblblaaGreat.Ev

/-- A loop that goes on for so many rounds. -/
theorem lim_ex {σ ρ A : Type} {step : σ → Option (σ ⊕ ρ)} (st : Nat → A → σ) (n : Nat) (fin : A → ρ) (I : Nat → A → Prop)
    (hs : ∀ i a, i < n → I i a → ∃ a', step (st i a) = some (.inl (st (i + 1) a')) ∧ I (i + 1) a')
    (he : ∀ a, I n a → step (st n a) = some (.inr (fin a))) : ∀ (k i : Nat) (a : A), i + k = n → I i a → ∃ a', lim step (st i a) = some (fin a') ∧ I n a' := by
  intro k
  induction k with
  | zero =>
    intro i a h hI
    have hi : i = n := by omega
    subst hi
    exact ⟨a, lim_end (he a hI), hI⟩
  | succ k ih =>
    intro i a h hI
    obtain ⟨a', h1, h2⟩ := hs i a (by omega) hI
    obtain ⟨a'', h3, h4⟩ := ih (i + 1) a' (by omega) h2
    exact ⟨a'', (lim_go h1).trans h3, h4⟩

theorem near_some (a b : List Int) (ha : a.length ≤ maxLen) (hb : b.length ≤ maxLen) : ∃ r, spec_l18Near.f a b = some ((r, ()), ()) := by
  obtain ⟨n, h1, _⟩ := lim_ex (step := spec_l18Near.S1) (fun i (n : Int) => ((a, b, n, ((i + 1 : Nat) : Int), ()), ())) 4 (fun n => ((n, ()), ())) (fun _ _ => True)
    (fun i n hi _ => by
      have e1 : decide (((i + 1 : Nat) : Int) ≤ 4) = true := by simp; omega
      have e3 : IntKind.i64.wrap (((i + 1 : Nat) : Int) + 1) = ((i + 1 + 1 : Nat) : Int) := by rw [W_id (by omega) (by omega)]; omega
      refine ⟨bif !(decide (((i + 1 : Nat) : Int) ∈ a) == decide (((i + 1 : Nat) : Int) ∈ b)) then IntKind.i64.wrap (n + 1) else n, ?_, trivial⟩
      simp only [spec_l18Near.S1, e1, cond_true, l05In_eq a _ ha, l05In_eq b _ hb, Option.bind_some, spec_l18Near.P0]
      cases (!(decide (((i + 1 : Nat) : Int) ∈ a) == decide (((i + 1 : Nat) : Int) ∈ b))) <;> simp only [cond_true, cond_false, Option.bind_some, e3])
    (fun _ _ => by rfl) 4 0 0 (by omega) trivial
  have h1' : spec_l18Near.L1 ((a, b, (0 : Int), (1 : Int), ()), ()) = _ := h1
  exact ⟨n == 1, by simp only [spec_l18Near.f, h1', Option.bind_some]⟩

theorem readConf_len (d : ByteArray) : (readConf d).1.length ≤ 4 := by
  unfold readConf
  split
  · rename_i h; exact confOk_len h
  · simp

theorem propose_peer {id term vote role lead : Int} {conf : List Int} {s t : Int} {es : List T_impl_Entry} {com clk li : Int} {votes : List Int} {peers : List T_impl_Peer} (z : T_impl_Node) (r : T_spec_l18Run) {index : Int} {oth : List Int} (acc : List T_impl_Peer) {i : Nat} (hi : i < oth.length) (hpl : peers.length ≤ 1000)
    (hp : ∀ p, p ∈ peers → peerOk index p = true) (hix : 1 ≤ index) :
    ∃ p, spec_Propose.L4 (((), (), (), index, oth, acc, (i : Int), (), (0 : Int), ()), (((id, term, vote, role, lead, conf, s, t, es, com, clk, li, votes, peers, ()) : T_impl_Node), z, ((oth[i], index, 0, 0, ()) : T_impl_Peer), r, ())) =
      some (((), (), (), index, oth, acc, (i : Int), (), ()), (((id, term, vote, role, lead, conf, s, t, es, com, clk, li, votes, peers, ()) : T_impl_Node), z, p, r, ())) ∧ p.1 = oth[i] ∧ peerOk index p = true := by
  have hm : peers.length ≤ maxLen := by rw [maxLen_eq]; omega
  obtain ⟨p, h1, h2⟩ := lim_ex (step := spec_Propose.S4) (fun k (p : T_impl_Peer) => (((), (), (), index, oth, acc, (i : Int), (), (k : Int), ()), (((id, term, vote, role, lead, conf, s, t, es, com, clk, li, votes, peers, ()) : T_impl_Node), z, p, r, ()))) peers.length
    (fun p => (((), (), (), index, oth, acc, (i : Int), (), ()), (((id, term, vote, role, lead, conf, s, t, es, com, clk, li, votes, peers, ()) : T_impl_Node), z, p, r, ()))) (fun _ p => p.1 = oth[i] ∧ peerOk index p = true)
    (fun k p hk hI => by
      have e0 : peers.getD ((k : Int)).toNat Z_impl_Peer = peers[k] := getD_at (List.getElem?_eq_getElem hk)
      have e1 : oth.getD ((i : Int)).toNat (0 : Int) = oth[i] := getD_at (List.getElem?_eq_getElem hi)
      refine ⟨bif peers[k].1 == oth[i] then peers[k] else p, ?_, ?_⟩
      · simp only [spec_Propose.S4, lt_true hk, lt_true hi, ge0, Bool.and_self, cond_true, e0, e1, letv_eq, spec_Propose.P3]
        cases peers[k].1 == oth[i] <;> simp only [cond_true, cond_false, Option.bind_some, W_succ hk hm]
      · cases hb : peers[k].1 == oth[i] with
        | true => exact ⟨eq_of_beq hb, hp _ (List.getElem_mem hk)⟩
        | false => exact hI)
    (fun _ _ => by simp only [spec_Propose.S4, lt_false (Nat.le_refl _), cond_false]) peers.length 0 (oth[i], index, 0, 0, ()) (by omega) ⟨rfl, by simp [peerOk, inR]; omega⟩
  exact ⟨p, h1, h2⟩

theorem propose_peers {id term vote role lead : Int} {conf : List Int} {s t : Int} {es : List T_impl_Entry} {com clk li : Int} {votes : List Int} {peers : List T_impl_Peer} (z : T_impl_Node) (r : T_spec_l18Run) {index : Int} {oth : List Int} (hol : oth.length ≤ 1000) (hpl : peers.length ≤ 1000)
    (hp : ∀ p, p ∈ peers → peerOk index p = true) (hix : 1 ≤ index) :
    ∃ ps, spec_Propose.L5 (((), (), (), index, oth, [], (0 : Int), ()), (((id, term, vote, role, lead, conf, s, t, es, com, clk, li, votes, peers, ()) : T_impl_Node), z, r, ())) = some (((), (), index, ps, ()), (z, r, ())) ∧ ids ps = oth ∧ ∀ p, p ∈ ps → peerOk index p = true := by
  have hm : oth.length ≤ maxLen := by rw [maxLen_eq]; omega
  obtain ⟨ps, h1, h2, h3⟩ := lim_ex (step := spec_Propose.S5) (fun i (a : List T_impl_Peer) => (((), (), (), index, oth, a, (i : Int), ()), (((id, term, vote, role, lead, conf, s, t, es, com, clk, li, votes, peers, ()) : T_impl_Node), z, r, ()))) oth.length
    (fun a => (((), (), index, a, ()), (z, r, ()))) (fun i a => ids a = oth.take i ∧ ∀ p, p ∈ a → peerOk index p = true)
    (fun i a hi hI => by
      have e1 : oth.getD ((i : Int)).toNat (0 : Int) = oth[i] := getD_at (List.getElem?_eq_getElem hi)
      obtain ⟨p, q1, q2, q3⟩ := propose_peer (id := id) (term := term) (vote := vote) (role := role) (lead := lead) (conf := conf) (s := s) (t := t) (es := es) (com := com) (clk := clk) (li := li) (votes := votes) (peers := peers) z r (index := index) (oth := oth) a hi hpl hp hix
      have hal : a.length = i := by
        have := congrArg List.length hI.1
        simp [ids] at this; omega
      have e : decide ((a.length + ([p] : List T_impl_Peer).length) * 32 ≤ 140737488355328) = true := big_app (by unfold big; omega) (by simp [big]) (by omega)
      refine ⟨a ++ [p], ?_, ?_, ?_⟩
      · simp only [spec_Propose.S5, lt_true hi, ge0, Bool.and_self, cond_true, e1, q1, Option.bind_some, e, W_succ hi hm]
      · rw [List.take_succ_eq_append_getElem hi, ← hI.1, ← q2]
        simp [ids]
      · intro x hx
        rcases List.mem_append.1 hx with hx | hx
        · exact hI.2 x hx
        · obtain rfl := List.mem_singleton.1 hx
          exact q3)
    (fun _ _ => by simp only [spec_Propose.S5, lt_false (Nat.le_refl _), cond_false]) oth.length 0 [] (by omega) ⟨by simp [ids], fun p hp => by simp at hp⟩
  rw [List.take_length] at h2
  exact ⟨ps, h1, h2, h3⟩

theorem peerOk_up {a b : Int} (h : a ≤ b) {p : T_impl_Peer} (hp : peerOk a p = true) : peerOk b p = true := by
  simp only [peerOk, Bool.and_eq_true, inR_iff] at hp ⊢
  omega

theorem spec_propose {id term vote role lead : Int} {conf : List Int} {s t : Int} {es : List T_impl_Entry} {com clk li : Int} {votes : List Int} {peers : List T_impl_Peer} (kind : Int) {data : ByteArray}
    (h : nodeOk (id, term, vote, role, lead, conf, s, t, es, com, clk, li, votes, peers, ()) = true) (hd : data.size ≤ big) :
    ∃ x told ix ok, spec_Propose.f (id, term, vote, role, lead, conf, s, t, es, com, clk, li, votes, peers, ()) kind data = some ((x, told, ix, ok, ()), ()) ∧ (ok = true → nodeOk x = true ∧ ToldR told) := by
  obtain ⟨hB, hv, hle, hr, hck, hli, hvs, hvr, hps⟩ := nodeOk_iff.1 h
  have hcl := confOk_len hB.confR
  have hcn := confOk_len (confNow_ok es hB.confR)
  have hpl := peersOk_len hps
  have hvl := rise_len4 hvs
  have hC := hB.cr (peers := peers) (by omega)
  have a1 := hC.lr.s0; have a2 := hC.lr.len; have a3 := hC.lr.last
  have e0 : confAt s conf es 1000060 = confNow conf es := by
    unfold confAt confNow upTo
    rw [List.take_of_length_le (by omega)]
  have hsm : SmE (term, kind, data, ()) := hd
  simp only [spec_Propose.f, spec_Propose.P0, spec_nodeOk_eq id term vote role lead conf s t es com clk li votes peers hC.sm (by rw [maxLen_eq]; omega) (by rw [maxLen_eq]; omega), h, Option.bind_some, Bool.not_true, cond_false, spec_entryOk_eq _ hsm, room_eq hC.lr]
  cases hr2 : role == 2 with
  | false => rw [bne, hr2]; exact ⟨_, _, _, _, rfl, fun e => by cases e⟩
  | true =>
  rw [bne, hr2]
  have hrole : role = 2 := eq_of_beq hr2
  simp only [Bool.not_true, cond_false, Option.bind_some]
  cases he : entryOk (term, kind, data, ()) with
  | false => exact ⟨_, _, _, _, rfl, fun e => by cases e⟩
  | true =>
  simp only [Bool.not_true, cond_false, Option.bind_some]
  cases hroom : room s es with
  | false => exact ⟨_, _, _, _, rfl, fun e => by cases e⟩
  | true =>
  simp only [Bool.not_true, cond_false, Option.bind_some]
  have hcmr := hB.cm
  -- may the conf turn?
  obtain ⟨b1, hb1⟩ : ∃ b, spec_Propose.P1 (((), (), (), (readConf data).1, ()), (((id, term, vote, role, lead, conf, s, t, es, com, clk, li, votes, peers, ()) : T_impl_Node), Z_impl_Node, ((term, kind, data, ()) : T_impl_Entry), ())) = some (((), (), (), b, ()), (((id, term, vote, role, lead, conf, s, t, es, com, clk, li, votes, peers, ()) : T_impl_Node), Z_impl_Node, ((term, kind, data, ()) : T_impl_Entry), ())) := by
    obtain ⟨r, hr⟩ := near_some (confNow conf es) (readConf data).1 (by rw [maxLen_eq]; omega) (by have := readConf_len data; rw [maxLen_eq]; omega)
    simp only [spec_Propose.P1, spec_term hC.lr (show -9223372036854775808 ≤ com by omega) (show com ≤ 9223372036854775807 by omega), Option.bind_some, confIndex_eq id term vote role lead conf com clk li votes peers hC.lr hC.terms, spec_confOf_eq id term vote role lead com clk li votes peers hC.lr hC.sm hC.cl, e0, hr]
    cases logTerm s t es com != term with
    | true => exact ⟨_, rfl⟩
    | false =>
      cases decide (confIx s es > com) <;> exact ⟨_, rfl⟩
  have hP2 : spec_Propose.P2 ((data, (), (), (), kind == 2, ()), (((id, term, vote, role, lead, conf, s, t, es, com, clk, li, votes, peers, ()) : T_impl_Node), Z_impl_Node, ((term, kind, data, ()) : T_impl_Entry), ())) =
      some (bif (kind == 2) && b1 then .inr (((), [], 0, false, ()), (Z_impl_Node, ())) else .inl (((), (), (), ()), (((id, term, vote, role, lead, conf, s, t, es, com, clk, li, votes, peers, ()) : T_impl_Node), Z_impl_Node, ((term, kind, data, ()) : T_impl_Entry), ()))) := by
    simp only [spec_Propose.P2]
    cases kind == 2 with
    | false => rfl
    | true =>
      simp only [cond_true, spec_readConf_eq data (Nat.le_trans hd (by rw [maxLen_eq]; decide)), Option.bind_some, hb1]
      cases b1 <;> rfl
  simp only [hP2]
  cases hbb : ((kind == 2) && b1) with
  | true => exact ⟨_, _, _, _, rfl, fun e => by cases e⟩
  | false =>
  have hBe := hB.snoc hroom he rfl
  have hCe := hBe.cr (peers := peers) (by omega)
  have c2 := hCe.lr.len; have c3 := hCe.lr.last
  have ecap : decide ((es.length + ([((term, kind, data, ()) : T_impl_Entry)] : List T_impl_Entry).length) * 32 ≤ 140737488355328) = true := big_app (by unfold big; omega) (by simp [big]) (by omega)
  have elen : ((es ++ [((term, kind, data, ()) : T_impl_Entry)]).length : Int) = (es.length : Int) + 1 := by simp
  have e0' : confAt s conf (es ++ [((term, kind, data, ()) : T_impl_Entry)]) 1000060 = confNow conf (es ++ [((term, kind, data, ()) : T_impl_Entry)]) := by
    unfold confAt confNow upTo
    rw [List.take_of_length_le (by rw [List.length_append, List.length_singleton]; omega)]
  have w : IntKind.i64.wrap (s + (es.length : Int) + 1) = s + (es.length : Int) + 1 := W_id (by omega) (by omega)
  have hcn' := confOk_len (confNow_ok (es ++ [((term, kind, data, ()) : T_impl_Entry)]) hB.confR)
  have hol : (others (confNow conf (es ++ [((term, kind, data, ()) : T_impl_Entry)])) id).length ≤ 1000 := by have := others_len (confNow conf (es ++ [((term, kind, data, ()) : T_impl_Entry)])) id; omega
  obtain ⟨ps, q1, q2, q3⟩ := propose_peers (id := id) (term := term) (vote := vote) (role := role) (lead := lead) (conf := conf) (s := s) (t := t) (es := es) (com := com) (clk := clk) (li := li) (votes := votes) (peers := peers) Z_impl_Node (id, term, vote, role, lead, conf, s, t, es ++ [((term, kind, data, ()) : T_impl_Entry)], com, clk, li, votes, peers, [], ()) (index := s + (es.length : Int) + 1) hol (show peers.length ≤ 1000 by omega)
    (fun p hp => peerOk_up (show s + (es.length : Int) ≤ s + (es.length : Int) + 1 by omega) ((peersOk_iff.1 hps).2 p hp)) (show 1 ≤ s + (es.length : Int) + 1 by omega)
  have hpsl : ps.length ≤ 1000 := by
    have := congrArg List.length q2
    simp [ids] at this; omega
  have hok' : nodeOk (id, term, vote, role, lead, conf, s, t, es ++ [((term, kind, data, ()) : T_impl_Entry)], com, clk, li, votes, ps, ()) = true := by
    refine nodeOk_iff.2 ⟨hBe, hv, hle, hr, hck, hli, hvs, hvr, ?_⟩
    rw [peersOk_iff, if_pos hrole, elen, show s + ((es.length : Int) + 1) = s + (es.length : Int) + 1 by omega]
    exact ⟨q2, q3⟩
  have hCp := hBe.cr hpsl
  have hgood := comM_ok hok'
  simp only [cond_false, l18Copy_eq id term vote role lead (conf := conf) s t (es := es) com clk li (votes := votes) (peers := peers) (by omega) (by omega) (by omega) (by omega), Option.bind_some, spec_l06 hC.lr, ecap, cond_true, spec_confOf_eq id term vote role lead com clk li votes peers hCe.lr hCe.sm hCe.cl, e0', l18Others_eq id hCe.now, w, q1, spec_commit id term vote role lead clk li votes [] hCp]
  rw [spec_sendAll id term vote _ _ _ clk li _ hCp.lr hCp.cl (by simp) (Nat.le_trans cond_len hpsl) (fun p hp => by
    have := q3 p (cond_mem hp)
    simp only [peerOk, Bool.and_eq_true, inR_iff] at this
    rw [elen]; omega)]
  exact ⟨_, _, _, _, rfl, fun _ => ⟨hgood, toldM_r hgood⟩⟩

/-! ### settled -/
theorem lastCP_def : ∀ (r : List T_impl_Entry) (i j : Nat) (a : Option (Nat × List Int)) (d : List Int), (match lastCP i a r with | some p => p.2 | none => d) = (match lastCP j none r with | some p => p.2 | none => (match a with | some p => p.2 | none => d)) := by
  intro r
  induction r with
  | nil => intro i j a d; rfl
  | cons e r ih =>
    intro i j a d
    simp only [lastCP]
    cases confE e with
    | none => exact ih _ _ _ _
    | some c =>
      simp only
      rw [ih (i + 1) 0 (some (i, c)) d, ih (j + 1) 0 (some (j, c)) _]

theorem confNow_app (conf : List Int) (a b : List T_impl_Entry) : confNow conf (a ++ b) = confNow (confNow conf a) b := by
  unfold confNow lastP
  rw [lastCP_append]
  exact lastCP_def b _ 0 _ conf

theorem termsOk_drop : ∀ (es : List T_impl_Entry) (t : Int) (k : Nat), termsOk t es = true → k ≤ es.length → termsOk (tAt t es k) (es.drop k) = true := by
  intro es
  induction es with
  | nil =>
    intro t k _ hk
    have : k = 0 := Nat.le_zero.1 hk
    subst this
    rfl
  | cons e r ih =>
    intro t k h hk
    cases k with
    | zero => exact h
    | succ k =>
      simp only [termsOk, Bool.and_eq_true] at h
      have := ih e.1 k h.2.2 (by simpa using hk)
      cases k with
      | zero => simpa [tAt] using this
      | succ k => simpa [tAt] using this

theorem tAt_range {t : Int} {es : List T_impl_Entry} (ht : 0 ≤ t ∧ t ≤ 100000) (h : termsOk t es = true) {k : Nat} (hk : k ≤ es.length) : 0 ≤ tAt t es k ∧ tAt t es k ≤ 100000 := by
  cases k with
  | zero => exact ht
  | succ k =>
    have hk' : k < es.length := hk
    have := terms_els es t h es[k] (List.getElem_mem hk')
    simp only [entryOk, Bool.and_eq_true, inR_iff] at this
    simp only [tAt, List.getElem?_eq_getElem hk']
    exact this.1

theorem lastTerm_drop {t : Int} {es : List T_impl_Entry} {k : Nat} (hk : k ≤ es.length) : lastTerm (tAt t es k) (es.drop k) = lastTerm t es := by
  rw [lastTerm_at, lastTerm_at, List.length_drop]
  by_cases h : es.length - k = 0
  · have : k = es.length := by omega
    rw [h, this]; rfl
  · obtain ⟨j, hj⟩ : ∃ j, es.length - k = j + 1 := ⟨es.length - k - 1, by omega⟩
    obtain ⟨n, hn⟩ : ∃ n, es.length = n + 1 := ⟨es.length - 1, by omega⟩
    rw [hj, hn]
    simp only [tAt, List.getElem?_drop]
    rw [show k + j = n by omega]

theorem spec_settle {id term vote role lead : Int} {conf : List Int} {s t : Int} {es : List T_impl_Entry} {com clk li : Int} {votes : List Int} {peers : List T_impl_Peer} (index : Int)
    (h : nodeOk (id, term, vote, role, lead, conf, s, t, es, com, clk, li, votes, peers, ()) = true) :
    ∃ x ok, spec_Settle.f (id, term, vote, role, lead, conf, s, t, es, com, clk, li, votes, peers, ()) index = some ((x, ok, ()), ()) ∧ (ok = true → nodeOk x = true) := by
  obtain ⟨hB, hv, hle, hr, hck, hli, hvs, hvr, hps⟩ := nodeOk_iff.1 h
  have hcl := confOk_len hB.confR
  have hpl := peersOk_len hps
  have hcn := confOk_len (confNow_ok es hB.confR)
  have hvl := rise_len4 hvs
  have hC := hB.cr (peers := peers) (by omega)
  have a1 := hC.lr.s0; have a2 := hC.lr.len; have a3 := hC.lr.last; have hcm := hB.cm
  simp only [spec_Settle.f, spec_Settle.P0, spec_nodeOk_eq id term vote role lead conf s t es com clk li votes peers hC.sm (by rw [maxLen_eq]; omega) (by rw [maxLen_eq]; omega), h, Option.bind_some, Bool.not_true, cond_false, in_eq']
  cases hix : inR s com index with
  | false => exact ⟨_, _, rfl, fun e => by cases e⟩
  | true =>
  have hix' := inR_iff.1 hix
  have hin : inR s (s + (es.length : Int)) index = true := inR_iff.2 (by omega)
  obtain ⟨k, hk⟩ : ∃ k : Nat, index - s = (k : Int) := ⟨(index - s).toNat, by omega⟩
  have hkl : k ≤ es.length := by omega
  have hidx : index = s + (k : Int) := by omega
  have w : IntKind.i64.wrap (index - s) = (k : Int) := by rw [W_id (by omega) (by omega)]; omega
  have d1 : decide ((k : Int) ≤ (es.length : Int)) = true := by simp; omega
  have d2 : decide ((([] : List T_impl_Entry).length + (es.drop k).length) * 32 ≤ 140737488355328) = true := cap_ok (c := 32) (by simp; omega) (by omega)
  have hlb : spec_LogBehind.f (s, t, es, ()) index (logTerm s t es index) = some (((index, logTerm s t es index, es.drop k, ()), ()), ()) := by
    simp only [spec_LogBehind.f, spec_LogBehind.P0, spec_logOk_eq (s, t, es, ()) hC.sm, hB.logR, Option.bind_some, cond_true, spec_l06 hC.lr, in_eq', hin, spec_term hC.lr (show -9223372036854775808 ≤ index by omega) (show index ≤ 9223372036854775807 by omega), beq_self_eq_true, spec_LogBehind.P1, w, ge0, d1, Bool.and_self, Bool.true_and, Int.toNat_natCast, List.take_length, letv_eq, d2, List.nil_append]
  simp only [Bool.not_true, cond_false, l18Copy_eq id term vote role lead (conf := conf) s t (es := es) com clk li (votes := votes) (peers := peers) (by omega) (by omega) (by omega) (by omega), Option.bind_some, spec_confAt_eq id term vote role lead com clk li votes peers index hC.lr hC.sm hC.cl, spec_term hC.lr (show -9223372036854775808 ≤ index by omega) (show index ≤ 9223372036854775807 by omega), hlb]
  refine ⟨_, _, rfl, fun _ => ?_⟩
  have hlt : logTerm s t es index = tAt t es k := by rw [hidx, logTerm_at]
  have hca : confAt s conf es index = confNow conf (es.take k) := by
    unfold confAt confNow upTo
    rw [hk]; rfl
  have hl := logOk_iff.1 hB.logR
  rw [hlt, hca]
  have hlen : ((es.drop k).length : Int) = (es.length : Int) - (k : Int) := by rw [List.length_drop]; omega
  show nodeOk (id, term, vote, role, lead, confNow conf (es.take k), index, tAt t es k, es.drop k, com, clk, li, votes, peers, ()) = true
  refine nodeOk_iff.2 ⟨⟨hB.idR, hB.termR, confNow_ok _ hB.confR, logOk_iff.2 ⟨by omega, tAt_range hl.2.1 hl.2.2.2.2 hkl, by rw [List.length_drop]; omega, by rw [hlen]; omega, termsOk_drop es t k hl.2.2.2.2 hkl⟩, by rw [lastTerm_drop hkl]; exact hB.lastR, by rw [hlen]; omega⟩, hv, hle, hr, hck, hli, hvs, hvr, ?_⟩
  rw [← confNow_app, List.take_append_drop, hlen, show index + ((es.length : Int) - (k : Int)) = s + (es.length : Int) by omega]
  exact hps

end Go.Proofs.YtnnnpppodblblaaGreat.Pu
/-
Plain laws: draws never stop.
-/
namespace Go.Proofs.YtnnnpppodblblaaGreat.Pu
open Go Go.Proofs.YtnnnpppodblblaaGreat.Ev

/-- A place in the code that is drawn from. -/
structure CurR (n : Nat) (c : T_spec_l01Cur) : Prop where
  len : c.1.length = n
  max : n ≤ maxLen
  pos : 0 ≤ c.2.1

theorem and_le (a : BitVec 64) (n : Nat) : (a &&& BitVec.ofInt 64 (n : Int)).toNat ≤ n % 2 ^ 64 := by
  rw [BitVec.toNat_and]
  have : (BitVec.ofInt 64 (n : Int)).toNat = n % 2 ^ 64 := by
    simp [BitVec.toNat_ofInt]
  rw [this]
  exact Nat.and_le_right

theorem byte_mask (x : Int) : 0 ≤ IntKind.i64.wrap ((BitVec.ofInt (IntKind.bits .i64) x &&& BitVec.ofInt (IntKind.bits .i64) (255 : Int)).toNat : Int) ∧ IntKind.i64.wrap ((BitVec.ofInt (IntKind.bits .i64) x &&& BitVec.ofInt (IntKind.bits .i64) (255 : Int)).toNat : Int) ≤ 255 := by
  have h := and_le (BitVec.ofInt 64 x) 255
  have h' : (BitVec.ofInt (IntKind.bits .i64) x &&& BitVec.ofInt (IntKind.bits .i64) (255 : Int)).toNat ≤ 255 := h
  rw [W_id (by omega) (by omega)]
  omega

theorem byte_some {n : Nat} {c : T_spec_l01Cur} (h : CurR n c) : ∃ x c', spec_l01Byte.f c = some ((x, ()), (c', ())) ∧ (0 ≤ x ∧ x ≤ 255) ∧ CurR n c' ∧ c'.1 = c.1 := by
  obtain ⟨b, i, hh, ⟨⟩⟩ := c
  have hp := h.pos; have hl := h.len; have hm := h.max
  simp only at hp hl
  have hm' := Wlen hm
  have e1 : decide ((33 : Int) < 0) = false := by decide
  have e2 : decide ((45 : Int) < 0) = false := by decide
  simp only [spec_l01Byte.f, letv_eq, e1, e2, cond_false, spec_l01Byte.P0]
  cases hlt : decide (i < (b.length : Int)) with
  | false => exact ⟨_, _, rfl, byte_mask _, ⟨hl, hm, hp⟩, rfl⟩
  | true =>
    have hlt' := of_decide_eq_true hlt
    have e3 : decide ((0 : Int) ≤ i) = true := by simpa using hp
    have e4 : IntKind.i64.wrap (i + 1) = i + 1 := W_id (by omega) (by omega)
    simp only [cond_true, e3, Bool.and_self, Option.bind_some, e4]
    exact ⟨_, _, rfl, byte_mask _, ⟨hl, hm, by simp only; omega⟩, rfl⟩

theorem below_some {n : Nat} {c : T_spec_l01Cur} (h : CurR n c) {k : Int} (hk : k ≤ 256) : ∃ x c', spec_l01Below.f k c = some ((x, ()), (c', ())) ∧ 0 ≤ x ∧ (0 < k → x < k) ∧ CurR n c' ∧ c'.1 = c.1 := by
  by_cases h0 : k ≤ 0
  · exact ⟨0, c, by simp only [spec_l01Below.f, decide_eq_true h0, cond_true], by omega, by omega, h, rfl⟩
  · obtain ⟨x, c', h1, h2, h3, h4⟩ := byte_some h
    have e : (k == 0) = false := by simp; omega
    refine ⟨x.tmod k, (c.1, c'.2.1, c'.2.2.1, ()), ?_, Int.tmod_nonneg _ h2.1, fun _ => Int.tmod_lt_of_pos _ (by omega), ?_, rfl⟩
    · simp only [spec_l01Below.f, decide_eq_false h0, decide_eq_true hk, cond_false, cond_true, h1, Option.bind_some, e]
    · exact ⟨h.len, h.max, h3.pos⟩

theorem once_some {n : Nat} {c : T_spec_l01Cur} (h : CurR n c) {k : Int} (hk : k ≤ 256) : ∃ x c', spec_l01Once.f k c = some ((x, ()), (c', ())) ∧ CurR n c' ∧ c'.1 = c.1 := by
  obtain ⟨x, c', h1, _, _, h3, h4⟩ := below_some h hk
  exact ⟨x == 0, (c.1, c'.2.1, c'.2.2.1, ()), by simp only [spec_l01Once.f, h1, Option.bind_some], ⟨h.len, h.max, h3.pos⟩, rfl⟩

theorem pickInt_some {n : Nat} {c : T_spec_l01Cur} (h : CurR n c) {l : List Int} (hl : 0 < l.length ∧ l.length ≤ 256) : ∃ x c', spec_l01PickInt.f l c = some ((x, ()), (c', ())) ∧ x ∈ l ∧ CurR n c' ∧ c'.1 = c.1 := by
  obtain ⟨x, c', h1, h2, h2', h3, h4⟩ := below_some h (k := (l.length : Int)) (by omega)
  obtain ⟨j, rfl⟩ : ∃ j : Nat, x = (j : Int) := ⟨x.toNat, by omega⟩
  have hj : j < l.length := by have := h2' (by omega); omega
  have e0 : l.getD ((j : Int)).toNat (0 : Int) = l[j] := getD_at (List.getElem?_eq_getElem hj)
  exact ⟨l[j], (c.1, c'.2.1, c'.2.2.1, ()), by simp only [spec_l01PickInt.f, h1, Option.bind_some, ge0, lt_true hj, Bool.and_self, cond_true, e0], List.getElem_mem hj, ⟨h.len, h.max, h3.pos⟩, rfl⟩

theorem pick_some {n : Nat} {c : T_spec_l01Cur} (h : CurR n c) {l : List ByteArray} (hl : 0 < l.length ∧ l.length ≤ 256) : ∃ x c', spec_l01Pick.f l c = some ((x, ()), (c', ())) ∧ CurR n c' ∧ c'.1 = c.1 := by
  obtain ⟨x, c', h1, h2, h2', h3, h4⟩ := below_some h (k := (l.length : Int)) (by omega)
  obtain ⟨j, rfl⟩ : ∃ j : Nat, x = (j : Int) := ⟨x.toNat, by omega⟩
  have hj : j < l.length := by have := h2' (by omega); omega
  exact ⟨l.getD ((j : Int)).toNat (⟨#[]⟩ : ByteArray), (c.1, c'.2.1, c'.2.2.1, ()), by simp only [spec_l01Pick.f, h1, Option.bind_some, ge0, lt_true hj, Bool.and_self, cond_true], ⟨h.len, h.max, h3.pos⟩, rfl⟩

theorem CurR.mk' {n : Nat} {c c' : T_spec_l01Cur} (h : CurR n c) (h' : CurR n c') : CurR n (c.1, c'.2.1, c'.2.2.1, ()) := ⟨h.len, h.max, h'.pos⟩

theorem new_some {code : List Int} (h : code.length ≤ maxLen) : ∃ c, spec_l01New.f code = some (((), ()), (c, ())) ∧ CurR code.length c := by
  have key : ∀ (k i : Nat) (hh : Int), i + k = code.length → ∃ h', spec_l01New.L1 ((code, hh, (i : Int), ()), ()) = some ((code, h', ()), ()) := by
    intro k
    induction k with
    | zero =>
      intro i hh hi
      exact ⟨hh, lim_end (by simp only [spec_l01New.S1, spec_l01New.P0, lt_false (show code.length ≤ i by omega), cond_false, Option.bind_some])⟩
    | succ k ih =>
      intro i hh hi
      have hi' : i < code.length := by omega
      cases h4 : decide ((i : Int) < 4000) with
      | false => exact ⟨hh, lim_end (by simp only [spec_l01New.S1, spec_l01New.P0, lt_true hi', cond_true, h4, cond_false, Option.bind_some])⟩
      | true =>
        obtain ⟨h', q⟩ := ih (i + 1) (IntKind.i64.wrap ((BitVec.ofInt (IntKind.bits .i64) (IntKind.i64.wrap (IntKind.i64.wrap (IntKind.i64.wrap (hh * 131) + IntKind.i64.wrap (code.getD ((i : Int)).toNat 0)) + 7)) &&& BitVec.ofInt (IntKind.bits .i64) (1073741823 : Int)).toNat : Int)) (by omega)
        refine ⟨h', (lim_go ?_).trans q⟩
        simp only [spec_l01New.S1, spec_l01New.P0, lt_true hi', cond_true, h4, Option.bind_some, ge0, Bool.and_self, letv_eq, W_succ hi' h]
  obtain ⟨h', q⟩ := key code.length 0 (IntKind.i64.wrap (37401 + (code.length : Int))) (by omega)
  have q' : spec_l01New.L1 ((code, IntKind.i64.wrap (37401 + (code.length : Int)), (0 : Int), ()), ()) = _ := q
  exact ⟨(code, 0, h', ()), by simp only [spec_l01New.f, q', Option.bind_some], ⟨rfl, h, Int.le_refl _⟩⟩

theorem conf_sub : ∀ b1 b2 b3 b4 : Bool, (let l := ((((bif b1 then [(1 : Int)] else []) ++ (bif b2 then [2] else [])) ++ (bif b3 then [3] else [])) ++ (bif b4 then [4] else []))
    confOk (bif l.isEmpty then l ++ [1] else l)) = true := by decide

theorem conf_step {n : Nat} {c : T_spec_l01Cur} (h : CurR n c) (out : List Int) (ho : out.length ≤ 1000) {i : Int} (hi : 1 ≤ i ∧ i ≤ 4) : ∃ (b : Bool) (c' : T_spec_l01Cur), spec_l05Conf.S1 (((), out, i, ()), (c, ())) = some (.inl (((), out ++ (bif b then [i] else []), i + 1, ()), (c', ()))) ∧ CurR n c' := by
  obtain ⟨b, c', h1, h2, h3⟩ := once_some h (k := 2) (by omega)
  have e1 : decide (i ≤ 4) = true := by simp; omega
  have e2 : decide ((out.length + [i].length) * 8 ≤ 140737488355328) = true := big_app (by unfold big; omega) (by simp [big]) (by omega)
  have e3 : IntKind.i64.wrap (i + 1) = i + 1 := W_id (by omega) (by omega)
  refine ⟨b, (c.1, c'.2.1, c'.2.2.1, ()), ?_, h.mk' h2⟩
  simp only [spec_l05Conf.S1, e1, cond_true, h1, Option.bind_some, spec_l05Conf.P0, e2]
  cases b <;> simp only [cond_true, cond_false, Option.bind_some, e3, List.append_nil]

theorem conf_some {n : Nat} {c : T_spec_l01Cur} (h : CurR n c) : ∃ l c', spec_l05Conf.f c = some ((l, ()), (c', ())) ∧ confOk l = true ∧ CurR n c' := by
  obtain ⟨b1, c1, q1, r1⟩ := conf_step h [] (by simp) (i := 1) (by omega)
  obtain ⟨b2, c2, q2, r2⟩ := conf_step r1 ([] ++ (bif b1 then [1] else [])) (by cases b1 <;> simp) (i := 1 + 1) (by omega)
  obtain ⟨b3, c3, q3, r3⟩ := conf_step r2 ([] ++ (bif b1 then [1] else []) ++ (bif b2 then [1 + 1] else [])) (by cases b1 <;> cases b2 <;> simp) (i := 1 + 1 + 1) (by omega)
  obtain ⟨b4, c4, q4, r4⟩ := conf_step r3 ([] ++ (bif b1 then [1] else []) ++ (bif b2 then [1 + 1] else []) ++ (bif b3 then [1 + 1 + 1] else [])) (by cases b1 <;> cases b2 <;> cases b3 <;> simp) (i := 1 + 1 + 1 + 1) (by omega)
  have hL : spec_l05Conf.L1 (((), ([] : List Int), (1 : Int), ()), (c, ())) = some (((([] ++ (bif b1 then [1] else []) ++ (bif b2 then [1 + 1] else []) ++ (bif b3 then [1 + 1 + 1] else []) ++ (bif b4 then [1 + 1 + 1 + 1] else [])), ()), (c4, ()))) := by
    rw [show spec_l05Conf.L1 = lim spec_l05Conf.S1 from rfl, lim_go q1, lim_go q2, lim_go q3, lim_go q4]
    exact lim_end rfl
  have hs := conf_sub b1 b2 b3 b4
  simp only at hs
  rw [show ([] ++ (bif b1 then [(1 : Int)] else []) ++ (bif b2 then [1 + 1] else []) ++ (bif b3 then [1 + 1 + 1] else []) ++ (bif b4 then [1 + 1 + 1 + 1] else [])) = ((((bif b1 then [(1 : Int)] else []) ++ (bif b2 then [2] else [])) ++ (bif b3 then [3] else [])) ++ (bif b4 then [4] else [])) from rfl] at hL
  have hlen : ((((bif b1 then [(1 : Int)] else []) ++ (bif b2 then [2] else [])) ++ (bif b3 then [3] else [])) ++ (bif b4 then [4] else [])).length ≤ 1000 := by cases b1 <;> cases b2 <;> cases b3 <;> cases b4 <;> simp
  generalize ((((bif b1 then [(1 : Int)] else []) ++ (bif b2 then [2] else [])) ++ (bif b3 then [3] else [])) ++ (bif b4 then [4] else [])) = l at *
  have e2 : decide ((l.length + ([1] : List Int).length) * 8 ≤ 140737488355328) = true := big_app (by unfold big; omega) (by simp [big]) (by omega)
  refine ⟨_, c4, ?_, hs, r4⟩
  simp only [spec_l05Conf.f, hL, Option.bind_some, len_beq0, spec_l05Conf.P2, e2, cond_true]
  cases l.isEmpty <;> rfl

theorem steps_some {code : List Int} (h : code.length ≤ maxLen) : ∃ k, spec_l18Steps.f code = some ((k, ()), ()) ∧ k ≤ 70 := by
  have e : ((4 : Int) == 0) = false := rfl
  simp only [spec_l18Steps.f, e, cond_false, letv_eq]
  cases hd : decide (IntKind.i64.wrap (10 + IntKind.i64.wrap ((code.length : Int).tdiv 4)) > 70) with
  | true => exact ⟨70, rfl, by omega⟩
  | false => exact ⟨_, rfl, by have := of_decide_eq_false hd; omega⟩

end Go.Proofs.YtnnnpppodblblaaGreat.Pu
/-
Plain laws: drawn commands, entries, texts.
-/
namespace Go.Proofs.YtnnnpppodblblaaGreat.Pu
open Go Go.Proofs.YtnnnpppodblblaaGreat.Ev

theorem nums_size (l : List Int) : (strOfNums l).size = l.length := by simp [strOfNums, ByteArray.size]

theorem below_big {n : Nat} {c : T_spec_l01Cur} (h : CurR n c) {k : Int} (hk : 256 < k) : ∃ x c', spec_l01Below.f k c = some ((x, ()), (c', ())) ∧ 0 ≤ x ∧ x < k ∧ CurR n c' := by
  obtain ⟨x1, c1, q1, r1, s1, _⟩ := byte_some h
  obtain ⟨x2, c2, q2, r2, s2, _⟩ := byte_some (h.mk' s1)
  obtain ⟨x3, c3, q3, r3, s3, _⟩ := byte_some (h.mk' s2)
  obtain ⟨x4, c4, q4, r4, s4, _⟩ := byte_some (h.mk' s3)
  have d1 : decide (k ≤ 0) = false := by simp; omega
  have d2 : decide (k ≤ 256) = false := by simp; omega
  have d3 : (k == 0) = false := by simp; omega
  have w1 : IntKind.i64.wrap (x1 * 16777216) = x1 * 16777216 := W_id (by omega) (by omega)
  have w2 : IntKind.i64.wrap (x2 * 65536) = x2 * 65536 := W_id (by omega) (by omega)
  have w3 : IntKind.i64.wrap (x3 * 256) = x3 * 256 := W_id (by omega) (by omega)
  have w4 : IntKind.i64.wrap (x1 * 16777216 + x2 * 65536) = x1 * 16777216 + x2 * 65536 := W_id (by omega) (by omega)
  have w5 : IntKind.i64.wrap (x1 * 16777216 + x2 * 65536 + x3 * 256) = x1 * 16777216 + x2 * 65536 + x3 * 256 := W_id (by omega) (by omega)
  have w6 : IntKind.i64.wrap (x1 * 16777216 + x2 * 65536 + x3 * 256 + x4) = x1 * 16777216 + x2 * 65536 + x3 * 256 + x4 := W_id (by omega) (by omega)
  refine ⟨(x1 * 16777216 + x2 * 65536 + x3 * 256 + x4).tmod k, (c.1, c4.2.1, c4.2.2.1, ()), ?_, Int.tmod_nonneg _ (by omega), Int.tmod_lt_of_pos _ (by omega), h.mk' s4⟩
  simp only [spec_l01Below.f, d1, d2, d3, cond_false, q1, q2, q3, q4, Option.bind_some, letv_eq, w1, w2, w3, w4, w5, w6]

theorem var_go : ∀ (k : Nat) (n : Int) (out : List Int), 0 ≤ n → n < 128 ^ (k + 1) → k ≤ 8 → out.length + k ≤ 100 → ∃ n' out', spec_l01Var.L0 ((n, out, ()), ()) = some ((n', out', ()), ()) ∧ out'.length ≤ out.length + k := by
  intro k
  induction k with
  | zero =>
    intro n out h0 h1 _ _
    have e : decide (n > 127) = false := by simp; omega
    exact ⟨n, out, lim_end (by simp only [spec_l01Var.S0, e, cond_false]), by omega⟩
  | succ k ih =>
    intro n out h0 h1 hk hl
    by_cases hn : n > 127
    · have hb : n ≤ 9223372036854775807 := by
        have : (128 : Int) ^ (k + 1 + 1) ≤ 128 ^ 9 := by
          have := Nat.pow_le_pow_right (n := 128) (by omega) (show k + 1 + 1 ≤ 9 + 0 + 1 by omega)
          have h9 : k + 1 + 1 ≤ 9 ∨ k + 1 + 1 = 10 := by omega
          rcases h9 with h9 | h9
          · exact_mod_cast Nat.pow_le_pow_right (n := 128) (by omega) h9
          · omega
        have h9 : (128 : Int) ^ 9 = 9223372036854775808 := by decide
        omega
      have w : IntKind.i64.wrap (n.tdiv 128) = n / 128 := by rw [Int.tdiv_eq_ediv_of_nonneg h0, W_id (by omega) (by omega)]
      have hlt : n / 128 < 128 ^ (k + 1) := by
        rw [Int.pow_succ] at h1
        omega
      obtain ⟨n', out', q1, q2⟩ := ih (n / 128) (out ++ [IntKind.u8.wrap (IntKind.i64.wrap (n.tmod 128 + 128))]) (by omega) hlt (by omega) (by simp; omega)
      have e2 : ∀ x : Int, decide ((out.length + ([x] : List Int).length) * 1 ≤ 140737488355328) = true := fun x => big_app (by unfold big; omega) (by simp [big]) (by omega)
      refine ⟨n', out', (lim_go ?_).trans q1, by simp at q2; omega⟩
      have e3 : ((128 : Int) == 0) = false := rfl
      simp only [spec_l01Var.S0, decide_eq_true hn, cond_true, e3, cond_false, letv_eq, e2, w]
    · exact ⟨n, out, lim_end (by simp only [spec_l01Var.S0, decide_eq_false hn, cond_false]), by omega⟩

theorem var_some {n : Int} (h : 0 ≤ n ∧ n ≤ 1000000000000) : ∃ s, spec_l01Var.f n = some ((s, ()), ()) ∧ s.size ≤ 8 := by
  obtain ⟨n', out', q1, q2⟩ := var_go 6 n [] h.1 (by have : (128 : Int) ^ (6 + 1) = 562949953421312 := by decide
                                                     omega) (by omega) (by simp)
  have e2 : ∀ x : Int, decide ((out'.length + ([x] : List Int).length) * 1 ≤ 140737488355328) = true := fun x => big_app (by simp at q2; unfold big; omega) (by simp [big]) (by omega)
  refine ⟨_, by simp only [spec_l01Var.f, q1, Option.bind_some, e2, cond_true]; rfl, ?_⟩
  rw [nums_size]
  simp at q2 ⊢; omega

theorem short_some {s : ByteArray} (h : s.size ≤ 1000) : ∃ r, spec_l16Short.f s = some ((r, ()), ()) ∧ r.size ≤ s.size + 8 := by
  obtain ⟨v, q1, q2⟩ := var_some (n := (s.size : Int)) (by omega)
  have e : decide (v.size + s.size ≤ 9223372036854775807) = true := by simp; omega
  exact ⟨v ++ s, by simp only [spec_l16Short.f, q1, Option.bind_some, e, cond_true], by rw [ByteArray.size_append]; omega⟩

/-- What is right of a command, for its text. -/
theorem commandOk_some (x : T_impl_Command) : ∃ b, spec_CommandOk.f x = some ((b, ()), ()) ∧ (b = true → (0 ≤ x.2.1 ∧ x.2.1 ≤ 1000000) ∧ (0 ≤ x.2.2.1 ∧ x.2.2.1 ≤ 1000000) ∧ x.2.2.2.1.size ≤ 20 ∧ x.2.2.2.2.1.size ≤ 20 ∧ 0 ≤ x.2.2.2.2.2.1 ∧ x.2.2.2.2.2.1 ≤ 1000000000) := by
  obtain ⟨op, tok, sq, key, val, ver, ⟨⟩⟩ := x
  simp only [spec_CommandOk.f, spec_CommandOk.P0, in_eq', Option.bind_some]
  cases h1 : inR 0 1000000 tok with
  | false => exact ⟨false, rfl, fun h => by cases h⟩
  | true =>
  cases h2 : inR 0 1000000 sq with
  | false => exact ⟨false, rfl, fun h => by cases h⟩
  | true =>
  cases h3 : inR 1 5 op with
  | false => exact ⟨false, rfl, fun h => by cases h⟩
  | true =>
  have h1' := inR_iff.1 h1
  have h2' := inR_iff.1 h2
  have empty : ∀ s : ByteArray, decide (s = ⟨#[]⟩) = true → s.size = 0 := fun s h => by
    have := of_decide_eq_true h
    rw [this]; rfl
  simp only [Bool.not_true, cond_false, Option.bind_some]
  cases ho : op == 1 with
  | true =>
    simp only [cond_true, spec_CommandOk.P1, toList_beq]
    cases tok == 0 <;> cases sq == 0 <;> cases hk : decide (key = ⟨#[]⟩) <;> cases hv : decide (val = ⟨#[]⟩) <;> cases hver : ver == 0 <;> first | exact ⟨false, rfl, fun h => by cases h⟩ | skip
    have hz : ver = 0 := eq_of_beq hver
    exact ⟨true, rfl, fun _ => ⟨h1', h2', by rw [empty key hk]; omega, by rw [empty val hv]; omega, by omega, by omega⟩⟩
  | false =>
    simp only [cond_false, spec_CommandOk.P2, in_eq', Option.bind_some]
    cases h4 : inR 1 8 (key.size : Int) with
    | false => exact ⟨false, rfl, fun h => by cases h⟩
    | true =>
    have h4' := inR_iff.1 h4
    cases h5 : decide ((val.size : Int) > 20) with
    | true => exact ⟨false, rfl, fun h => by cases h⟩
    | false =>
    have h5' := of_decide_eq_false h5
    simp only [Bool.not_true, cond_false, Option.bind_some]
    cases op == 2 with
    | true =>
      simp only [cond_true]
      exact ⟨ver == 0, rfl, fun h => ⟨h1', h2', by omega, by omega, by have := eq_of_beq h; omega, by have := eq_of_beq h; omega⟩⟩
    | false =>
      cases op == 5 with
      | true =>
        simp only [cond_true, cond_false, Option.bind_some]
        exact ⟨_, rfl, fun h => ⟨h1', h2', by omega, by omega, by have := inR_iff.1 h; omega, by have := inR_iff.1 h; omega⟩⟩
      | false =>
        simp only [cond_false, spec_CommandOk.P3, toList_beq]
        cases decide (val = ⟨#[]⟩) with
        | false => exact ⟨false, rfl, fun h => by cases h⟩
        | true =>
          exact ⟨ver == 0, rfl, fun h => ⟨h1', h2', by omega, by omega, by have := eq_of_beq h; omega, by have := eq_of_beq h; omega⟩⟩

theorem commandText_some (x : T_impl_Command) : ∃ s b, spec_CommandText.f x = some ((s, b, ()), ()) ∧ s.size ≤ 1000 := by
  obtain ⟨b, q1, q2⟩ := commandOk_some x
  simp only [spec_CommandText.f, q1, Option.bind_some]
  cases b with
  | false => exact ⟨_, _, rfl, by decide⟩
  | true =>
    obtain ⟨h1, h2, h3, h4, h5⟩ := q2 rfl
    obtain ⟨v1, a1, b1⟩ := var_some (n := x.2.1) (by omega)
    obtain ⟨v2, a2, b2⟩ := var_some (n := x.2.2.1) (by omega)
    obtain ⟨v3, a3, b3⟩ := short_some (s := x.2.2.2.1) (by omega)
    obtain ⟨v4, a4, b4⟩ := short_some (s := x.2.2.2.2.1) (by omega)
    obtain ⟨v5, a5, b5⟩ := var_some (n := x.2.2.2.2.2.1) (by omega)
    have z : (strOfNums [IntKind.u8.wrap x.1]).size = 1 := nums_size _
    have d1 : decide ((strOfNums [IntKind.u8.wrap x.1]).size + v1.size ≤ 9223372036854775807) = true := by simp; omega
    have d2 : decide ((strOfNums [IntKind.u8.wrap x.1] ++ v1).size + v2.size ≤ 9223372036854775807) = true := by simp only [ByteArray.size_append]; simp; omega
    have d3 : decide ((strOfNums [IntKind.u8.wrap x.1] ++ v1 ++ v2).size + v3.size ≤ 9223372036854775807) = true := by simp only [ByteArray.size_append]; simp; omega
    have d4 : decide ((strOfNums [IntKind.u8.wrap x.1] ++ v1 ++ v2 ++ v3).size + v4.size ≤ 9223372036854775807) = true := by simp only [ByteArray.size_append]; simp; omega
    have d5 : decide ((strOfNums [IntKind.u8.wrap x.1] ++ v1 ++ v2 ++ v3 ++ v4).size + v5.size ≤ 9223372036854775807) = true := by simp only [ByteArray.size_append]; simp; omega
    simp only [Bool.not_true, cond_false, a1, a2, a3, a4, a5, Option.bind_some, d1, d2, d3, d4, d5, cond_true]
    exact ⟨_, _, rfl, by simp only [ByteArray.size_append]; omega⟩

theorem itemOf_some (k : T_impl_Keep) (key : ByteArray) (h : k.2.1.length ≤ maxLen) : ∃ x b, spec_ItemOf.f k key = some ((x, b, ()), ()) := by
  have key' : ∀ (m i : Nat), i + m = k.2.1.length → (∃ z, spec_ItemOf.L0 ((key, (), (), (i : Int), ()), (k, ((⟨#[]⟩, ⟨#[]⟩, 0, ()) : T_impl_Item), ())) = some z) := by
    intro m
    induction m with
    | zero =>
      intro i hi
      exact ⟨_, lim_end (by simp only [spec_ItemOf.S0, lt_false (show k.2.1.length ≤ i by omega), cond_false]; rfl)⟩
    | succ m ih =>
      intro i hi
      have hi' : i < k.2.1.length := by omega
      cases hb : ((k.2.1.getD ((i : Int)).toNat Z_impl_Item).1).toList == key.toList with
      | true => exact ⟨_, lim_end (by simp only [spec_ItemOf.S0, lt_true hi', ge0, Bool.and_self, cond_true, hb]; rfl)⟩
      | false =>
        obtain ⟨z, hz⟩ := ih (i + 1) (by omega)
        exact ⟨z, (lim_go (by simp only [spec_ItemOf.S0, lt_true hi', ge0, Bool.and_self, cond_true, cond_false, hb, W_succ hi' h])).trans hz⟩
  obtain ⟨z, hz⟩ := key' k.2.1.length 0 (by omega)
  have hz' : spec_ItemOf.L0 ((key, (), (), (0 : Int), ()), (k, ((⟨#[]⟩, ⟨#[]⟩, 0, ()) : T_impl_Item), ())) = _ := hz
  simp only [spec_ItemOf.f, hz', Option.bind_some]
  cases z with
  | inl z => exact ⟨_, _, rfl⟩
  | inr z => exact ⟨_, _, rfl⟩

theorem of_some {n : Nat} {c : T_spec_l01Cur} (h : CurR n c) (k : T_impl_Keep) (hk : k.2.1.length ≤ maxLen) : ∃ x c', spec_l15Of.f k c = some ((x, ()), (c', ())) ∧ CurR n c' := by
  obtain ⟨r0, c1, q1, _, s1, _⟩ := pickInt_some h (l := [2, 2, 2, 3, 3, 4, 5, 5]) (by simp)
  obtain ⟨r1, c2, q2, s2, _⟩ := pick_some (h.mk' s1) (l := [(⟨#[97]⟩ : ByteArray), (⟨#[98]⟩ : ByteArray), (⟨#[99]⟩ : ByteArray), (⟨#[114, 111, 111, 116]⟩ : ByteArray), (⟨#[120, 49]⟩ : ByteArray)]) (by simp)
  obtain ⟨it, b, q3⟩ := itemOf_some k r1 hk
  have hP0 : ∀ (b : Bool) (t x : T_impl_Command) (i : T_impl_Item) (c : T_spec_l01Cur), spec_l15Of.P0 (((), (), (), (), b, ()), (t, x, i, c, ())) = some (((), (), (), (), b, x.1 == 2 || x.1 == 5, ()), (t, x, i, c, ())) := by
    intro b t x i c
    simp only [spec_l15Of.P0]
    cases x.1 == 2 <;> rfl
  have hP1 : ∀ (b d : Bool) (t x : T_impl_Command) (i : T_impl_Item) (c : T_spec_l01Cur), CurR n c → ∃ x' c', spec_l15Of.P1 (((), (), (), (), b, d, ()), (t, x, i, c, ())) = some (((), (), (), (), b, ()), (t, x', i, c', ())) ∧ CurR n c' := by
    intro b d t x i c hc
    cases d with
    | false => exact ⟨_, _, rfl, hc⟩
    | true =>
      obtain ⟨v, c', q, s, _⟩ := pick_some hc (l := [(⟨#[]⟩ : ByteArray), (⟨#[49]⟩ : ByteArray), (⟨#[116, 119, 111]⟩ : ByteArray), (⟨#[116, 104, 114, 101, 101]⟩ : ByteArray)]) (by simp)
      simp only [spec_l15Of.P1, cond_true, letv_eq, q, Option.bind_some]
      exact ⟨_, _, rfl, hc.mk' s⟩
  have hP4 : ∀ (b d : Bool) (t x : T_impl_Command) (i : T_impl_Item) (c : T_spec_l01Cur), CurR n c → ∃ x' c', spec_l15Of.P4 (((), (), (), (), b, d, ()), (t, x, i, c, ())) = some (((), (), ()), (t, x', c', ())) ∧ CurR n c' := by
    intro b d t x i c hc
    cases d with
    | false => exact ⟨_, _, rfl, hc⟩
    | true =>
      obtain ⟨v, c', q, _, _, s, _⟩ := below_some hc (k := 20) (by omega)
      simp only [spec_l15Of.P4, cond_true, q, Option.bind_some, spec_l15Of.P2]
      cases b with
      | false => exact ⟨_, _, rfl, hc.mk' s⟩
      | true =>
        obtain ⟨o, c'', q', s', _⟩ := once_some (hc.mk' s) (k := 3) (by omega)
        simp only [cond_true, q', Option.bind_some, spec_l15Of.P3]
        cases o
        · exact ⟨_, _, rfl, (hc.mk' s).mk' s'⟩
        · exact ⟨_, _, rfl, (hc.mk' s).mk' s'⟩
  simp only [spec_l15Of.f, letv_eq, q1, Option.bind_some, q2, q3, hP0]
  obtain ⟨x1, c3, q4, s4⟩ := hP1 b (r0 == 2 || r0 == 5) (0, 0, 0, ⟨#[]⟩, ⟨#[]⟩, 0, ()) (r0, 0, 0, r1, ⟨#[]⟩, 0, ()) it _ ((h.mk' s1).mk' s2)
  simp only [q4, Option.bind_some]
  obtain ⟨x2, c4, q5, s5⟩ := hP4 b (x1.1 == 5) (0, 0, 0, ⟨#[]⟩, ⟨#[]⟩, 0, ()) x1 it _ s4
  simp only [q5, Option.bind_some]
  exact ⟨_, _, rfl, s5⟩

end Go.Proofs.YtnnnpppodblblaaGreat.Pu
/-
Plain laws: drawn entries and messages.
-/
namespace Go.Proofs.YtnnnpppodblblaaGreat.Pu
open Go Go.Proofs.YtnnnpppodblblaaGreat.Ev

theorem command_some {n : Nat} {c : T_spec_l01Cur} (h : CurR n c) (k : T_impl_Keep) (hs : 0 < k.1.length ∧ k.1.length ≤ 256) (hk : k.2.1.length ≤ maxLen) : ∃ x c', spec_l15Command.f k c = some ((x, ()), (c', ())) ∧ CurR n c' := by
  have e1 : ((k.1.length : Int) == 0) = false := beq_eq_false_iff_ne.2 (by omega)
  have hP0 : ∀ t : T_impl_Command, ∃ b c', spec_l15Command.P0 (((), (), (), ()), (k, t, c, ())) = some (((), (), (), b, ()), (k, t, c', ())) ∧ CurR n c' := by
    intro t
    obtain ⟨b, c1, q, s, _⟩ := once_some h (k := 16) (by omega)
    refine ⟨b, _, ?_, h.mk' s⟩
    simp only [spec_l15Command.P0, e1, cond_false, q, Option.bind_some]
  obtain ⟨b, c1, q1, s1⟩ := hP0 (0, 0, 0, ⟨#[]⟩, ⟨#[]⟩, 0, ())
  simp only [spec_l15Command.f, q1, Option.bind_some]
  cases b with
  | true => exact ⟨_, _, rfl, s1⟩
  | false =>
    obtain ⟨x, c2, q2, s2⟩ := of_some s1 k hk
    have w : IntKind.i64.wrap ((k.1.length : Int) - 1) = ((k.1.length - 1 : Nat) : Int) := by rw [W_id (by omega) (by omega)]; omega
    obtain ⟨o, c3, q3, s3, _⟩ := once_some (s1.mk' s2) (k := 4) (by omega)
    have hP1 : ∀ (d : Bool) (t x : T_impl_Command) (e : T_impl_Entry) (c : T_spec_l01Cur), CurR n c → ∃ e' c', spec_l15Command.P1 (((), (), (), (), (), d, ()), (k, t, x, e, c, ())) = some (((), (), (), (), ()), (t, x, e', c', ())) ∧ CurR n c' := by
      intro d t x e c hc
      cases d with
      | false => exact ⟨_, _, rfl, hc⟩
      | true =>
        obtain ⟨y, c', q, y0, y1, s, _⟩ := below_some hc (k := (k.1.length : Int)) (by omega)
        have y2 := y1 (by omega)
        have e2 : decide ((0 : Int) ≤ y) = true := by simpa using y0
        have e3 : decide (y < (k.1.length : Int)) = true := by simpa using y2
        simp only [spec_l15Command.P1, cond_true, q, Option.bind_some, e2, e3, Bool.and_self]
        exact ⟨_, _, rfl, hc.mk' s⟩
    have hP4 : ∀ (d : Bool) (y : Int) (t x : T_impl_Command) (e : T_impl_Entry) (c : T_spec_l01Cur), CurR n c → ∃ x' c', spec_l15Command.P4 (((), (), (), (), y, d, ()), (t, x, e, c, ())) = some (((), (), ()), (t, x', c', ())) ∧ CurR n c' := by
      intro d y t x e c hc
      cases d with
      | true => exact ⟨_, _, rfl, hc⟩
      | false =>
        simp only [spec_l15Command.P4, cond_false, spec_l15Command.P3]
        cases y == 1 with
        | true =>
          obtain ⟨z, c', q, _, _, s, _⟩ := below_some hc (k := 4) (by omega)
          simp only [cond_true, q, Option.bind_some]
          exact ⟨_, _, rfl, hc.mk' s⟩
        | false =>
          simp only [cond_false, spec_l15Command.P2]
          cases y == 2 with
          | false => exact ⟨_, _, rfl, hc⟩
          | true =>
            obtain ⟨z, c', q, _, _, s, _⟩ := below_some hc (k := 9) (by omega)
            simp only [cond_true, q, Option.bind_some]
            exact ⟨_, _, rfl, hc.mk' s⟩
    have hlt : k.1.length - 1 < k.1.length := by omega
    simp only [cond_false, q2, Option.bind_some, w, ge0, lt_true hlt, Bool.and_self, cond_true, q3]
    obtain ⟨e', c4, q4, s4⟩ := hP1 o (0, 0, 0, ⟨#[]⟩, ⟨#[]⟩, 0, ()) x (k.1.getD ((k.1.length - 1 : Nat) : Int).toNat Z_impl_Entry) _ ((s1.mk' s2).mk' s3)
    simp only [q4, Option.bind_some]
    obtain ⟨y, c5, q5, _, _, s5, _⟩ := below_some s4 (k := 16) (by omega)
    simp only [q5, Option.bind_some]
    obtain ⟨x', c6, q6, s6⟩ := hP4 (y == 0) y (0, 0, 0, ⟨#[]⟩, ⟨#[]⟩, 0, ()) (impl_Command.u2 (impl_Command.u1 x e'.1) (IntKind.i64.wrap (e'.2.1 + 1))) e' _ (s4.mk' s5)
    simp only [q6, Option.bind_some]
    exact ⟨_, _, rfl, s6⟩

theorem right16_some {n : Nat} {c : T_spec_l01Cur} (h : CurR n c) : ∃ x c', spec_l16Right.f c = some ((x, ()), (c', ())) ∧ CurR n c' := by
  obtain ⟨r1, c1, q1, _, _, s1, _⟩ := below_some h (k := 5) (by omega)
  obtain ⟨r2, c2, q2, _, _, s2, _⟩ := below_some (h.mk' s1) (k := 4) (by omega)
  simp only [spec_l16Right.f, spec_KeepNew.f, letv_eq, Option.bind_some, q1, q2]
  obtain ⟨x, c3, q3, s3⟩ := command_some ((h.mk' s1).mk' s2) ([(IntKind.i64.wrap (1 + r1), r2, (⟨#[]⟩ : ByteArray), ())], [((⟨#[114, 111, 111, 116]⟩ : ByteArray), (⟨#[]⟩ : ByteArray), 1, ())], ()) (by simp) (by simp [maxLen_eq])
  have q3' : spec_l15Command.f ([(IntKind.i64.wrap (1 + r1), r2, (⟨#[]⟩ : ByteArray), ())], [((⟨#[114, 111, 111, 116]⟩ : ByteArray), (⟨#[]⟩ : ByteArray), 1, ())], ()) (c.1, c2.2.1, c2.2.2.1, ()) = some ((x, ()), (c3, ())) := q3
  simp only [q3', Option.bind_some]
  obtain ⟨b, q4, _⟩ := commandOk_some x
  simp only [q4, Option.bind_some]
  cases b with
  | false => exact ⟨_, _, rfl, h.mk' s3⟩
  | true => exact ⟨_, _, rfl, h.mk' s3⟩

theorem confText_some {conf : List Int} (h : confOk conf = true) : ∃ s b, spec_ConfText.f conf = some ((s, b, ()), ()) ∧ s.size ≤ 4 := by
  have hl := confOk_len h
  have hm : conf.length ≤ maxLen := by rw [maxLen_eq]; omega
  obtain ⟨l, h1, h2⟩ := lim_ex (step := spec_ConfText.S0) (fun i (a : List Int) => ((conf, a, (i : Int), ()), ())) conf.length (fun a => ((a, ()), ())) (fun i a => a.length = i)
    (fun i a hi hI => by
      have e : ∀ x : Int, decide ((a.length + ([x] : List Int).length) * 1 ≤ 140737488355328) = true := fun x => big_app (by unfold big; omega) (by simp [big]) (by omega)
      exact ⟨a ++ [IntKind.u8.wrap (conf.getD ((i : Int)).toNat 0)], by simp only [spec_ConfText.S0, lt_true hi, ge0, Bool.and_self, cond_true, e, W_succ hi hm], by simp [hI]⟩)
    (fun _ _ => by simp only [spec_ConfText.S0, lt_false (Nat.le_refl _), cond_false]) conf.length 0 [] (by omega) rfl
  have h1' : spec_ConfText.L0 ((conf, ([] : List Int), (0 : Int), ()), ()) = _ := h1
  simp only [spec_ConfText.f, spec_confOk_eq conf hm, h, Option.bind_some, Bool.not_true, cond_false, h1']
  exact ⟨_, _, rfl, by rw [nums_size]; omega⟩

theorem right05_some {n : Nat} {c : T_spec_l01Cur} (h : CurR n c) (term : Int) : ∃ e c', spec_l05Right.f term c = some ((e, ()), (c', ())) ∧ SmE e ∧ CurR n c' := by
  obtain ⟨r0, c1, q1, _, s1, _⟩ := pickInt_some h (l := [1, 2, 3, 3, 3]) (by simp)
  simp only [spec_l05Right.f, q1, Option.bind_some, spec_l05Right.P1]
  cases r0 == 2 with
  | true =>
    obtain ⟨cf, c2, q2, k2, s2⟩ := conf_some (h.mk' s1)
    obtain ⟨s, b, q3, z⟩ := confText_some k2
    simp only [cond_true, q2, Option.bind_some, q3]
    exact ⟨_, _, rfl, by unfold SmE big; simp only; omega, (h.mk' s1).mk' s2⟩
  | false =>
    simp only [cond_false, spec_l05Right.P0]
    cases r0 == 3 with
    | false => exact ⟨_, _, rfl, Nat.zero_le _, h.mk' s1⟩
    | true =>
      obtain ⟨x, c2, q2, s2⟩ := right16_some (h.mk' s1)
      obtain ⟨s, b, q3, z⟩ := commandText_some x
      simp only [cond_true, q2, Option.bind_some, q3]
      exact ⟨_, _, rfl, by unfold SmE big; simp only; omega, (h.mk' s1).mk' s2⟩

theorem text_some {n : Nat} {c : T_spec_l01Cur} (h : CurR n c) {k : Int} (hk : 0 ≤ k ∧ k ≤ 1000) : ∃ s c', spec_l01Text.f k c = some ((s, ()), (c', ())) ∧ CurR n c' := by
  obtain ⟨kk, rfl⟩ : ∃ j : Nat, k = (j : Int) := ⟨k.toNat, by omega⟩
  have e1 : decide ((kk : Int) > 5000) = false := by simp; omega
  obtain ⟨a, h1, h2, h3⟩ := lim_ex (step := spec_l01Text.S1) (fun i (a : List Int × T_spec_l01Cur) => (((), (kk : Int), a.1, (i : Int), ()), (a.2, ()))) kk (fun a => ((a.1, ()), (a.2, ()))) (fun i a => a.1.length = i ∧ CurR n a.2)
    (fun i a hi hI => by
      obtain ⟨x, c', q, _, s, _⟩ := byte_some hI.2
      have e : ∀ x : Int, decide ((a.1.length + ([x] : List Int).length) * 1 ≤ 140737488355328) = true := fun x => big_app (by have := hI.1; unfold big; omega) (by simp [big]) (by omega)
      have w : IntKind.i64.wrap ((i : Int) + 1) = ((i + 1 : Nat) : Int) := W_succ hi (by rw [maxLen_eq]; omega)
      exact ⟨(a.1 ++ [IntKind.u8.wrap x], (a.2.1, c'.2.1, c'.2.2.1, ())), by simp only [spec_l01Text.S1, lt_true hi, cond_true, q, Option.bind_some, e, w], by simp [hI.1], hI.2.mk' s⟩)
    (fun a _ => by simp only [spec_l01Text.S1, lt_false (Nat.le_refl _), cond_false]) kk 0 ([], c) (by omega) ⟨rfl, h⟩
  have h1' : spec_l01Text.L1 (((), (kk : Int), ([] : List Int), (0 : Int), ()), (c, ())) = _ := h1
  simp only [spec_l01Text.f, spec_l01Text.P0, e1, cond_false, Option.bind_some, h1']
  exact ⟨_, _, rfl, h3⟩

/-- The entries of a drawn message. -/
theorem ents_some {n : Nat} (z m : T_impl_Message) (hm : 0 ≤ m.2.2.2.1 ∧ m.2.2.2.1 ≤ 100) : ∀ (k i : Nat) (term : Int) (es : List T_impl_Entry) (c : T_spec_l01Cur), i + k = 5 → 0 ≤ term ∧ term ≤ 100 → SmL es → es.length = i → CurR n c →
    ∃ es' c', spec_l17Right.L0 (((), (), (), term, (i : Int), ()), (z, (impl_Message.u8 m es), c, ())) = some (((), (), ()), (z, (impl_Message.u8 m es'), c', ())) ∧ SmL es' ∧ CurR n c' := by
  intro k
  induction k with
  | zero =>
    intro i term es c hi ht hes hel hc
    obtain ⟨x, c', q, x0, x1, s, _⟩ := below_some hc (k := 5) (by omega)
    have e : decide ((i : Int) < x) = false := by have := x1 (by omega); simp; omega
    exact ⟨es, _, lim_end (by simp only [spec_l17Right.S0, q, Option.bind_some, e, cond_false]), hes, hc.mk' s⟩
  | succ k ih =>
    intro i term es c hi ht hes hel hc
    obtain ⟨x, c1, q1, x0, x1, s1, _⟩ := below_some hc (k := 5) (by omega)
    cases hlt : decide ((i : Int) < x) with
    | false => exact ⟨es, _, lim_end (by simp only [spec_l17Right.S0, q1, Option.bind_some, hlt, cond_false]), hes, hc.mk' s1⟩
    | true =>
      have w1 : IntKind.i64.wrap (IntKind.i64.wrap (m.2.2.2.1 - term) + 1) = m.2.2.2.1 - term + 1 := by rw [W_id (x := m.2.2.2.1 - term) (by omega) (by omega), W_id (by omega) (by omega)]
      obtain ⟨y, c2, q2, y0, y1, s2, _⟩ := below_some (hc.mk' s1) (k := m.2.2.2.1 - term + 1) (by omega)
      have hy : y ≤ 100 - term := by
        by_cases hp : 0 < m.2.2.2.1 - term + 1
        · have := y1 hp; omega
        · have hb : spec_l01Below.f (m.2.2.2.1 - term + 1) (c.1, c1.2.1, c1.2.2.1, ()) = some ((0, ()), ((c.1, c1.2.1, c1.2.2.1, ()), ())) := by
            simp only [spec_l01Below.f, decide_eq_true (show m.2.2.2.1 - term + 1 ≤ 0 by omega), cond_true]
          rw [hb] at q2
          have : y = 0 := by
            have := congrArg (fun o : Option ((Int × Unit) × (T_spec_l01Cur × Unit)) => (o.map (fun r => r.1.1)).getD 0) q2
            simpa using this.symm
          omega
      have w2 : IntKind.i64.wrap (term + y) = term + y := W_id (by omega) (by omega)
      obtain ⟨e, c3, q3, k3, s3⟩ := right05_some ((hc.mk' s1).mk' s2) (term + y)
      have ecap : decide ((es.length + ([e] : List T_impl_Entry).length) * 32 ≤ 140737488355328) = true := big_app (by unfold big; omega) (by simp [big]) (by omega)
      have w3 : IntKind.i64.wrap ((i : Int) + 1) = ((i + 1 : Nat) : Int) := by rw [W_id (by omega) (by omega)]; omega
      have hes' : SmL (es ++ [e]) := ⟨by simp; unfold big; omega, fun x hx => by
        rcases List.mem_append.1 hx with hx | hx
        · exact hes.els x hx
        · obtain rfl := List.mem_singleton.1 hx; exact k3⟩
      obtain ⟨es', c', q4, k4, s4⟩ := ih (i + 1) (term + y) (es ++ [e]) _ (by omega) (by omega) hes' (by simp [hel]) (hc.mk' s3)
      refine ⟨es', c', (lim_go ?_).trans q4, k4, s4⟩
      simp only [spec_l17Right.S0, q1, Option.bind_some, hlt, cond_true, w1, q2, w2, q3, ecap, w3]

end Go.Proofs.YtnnnpppodblblaaGreat.Pu
/-
Plain laws: drawn messages; nodes that are played.
-/
namespace Go.Proofs.YtnnnpppodblblaaGreat.Pu
open Go Go.Proofs.YtnnnpppodblblaaGreat.Ev

theorem right17_some {n : Nat} {c : T_spec_l01Cur} (h : CurR n c) : ∃ m c', spec_l17Right.f c = some ((m, ()), (c', ())) ∧ MsgR m ∧ CurR n c' := by
  obtain ⟨r0, c1, q0, x0, y0, s0, _⟩ := below_some h (k := 6) (by omega)
  obtain ⟨r1, c2, q1, x1, y1, s1, _⟩ := below_some (h.mk' s0) (k := 4) (by omega)
  obtain ⟨r2, c3, q2, x2, y2, s2, _⟩ := below_some (h.mk' s1) (k := 8) (by omega)
  obtain ⟨r3, c4, q3, x3, y3, s3, _⟩ := below_some (h.mk' s2) (k := 12) (by omega)
  obtain ⟨r4, c5, q4, x4, y4, s4, _⟩ := below_some (h.mk' s3) (k := 5) (by omega)
  obtain ⟨r5, c6, q5, x5, y5, s5, _⟩ := below_some (h.mk' s4) (k := 9) (by omega)
  obtain ⟨r6, c7, q6, s6, _⟩ := once_some (h.mk' s5) (k := 2) (by omega)
  have z0 := y0 (by omega); have z1 := y1 (by omega); have z2 := y2 (by omega); have z5 := y5 (by omega)
  have e4 : ((4 : Int) == 0) = false := rfl
  have w0 : IntKind.i64.wrap (1 + r0) = 1 + r0 := W_id (by omega) (by omega)
  have w1 : IntKind.i64.wrap (1 + r1) = 1 + r1 := W_id (by omega) (by omega)
  have t1 : (1 + r1).tmod 4 = (1 + r1) % 4 := Int.tmod_eq_emod_of_nonneg (by omega)
  have w2 : IntKind.i64.wrap ((1 + r1) % 4 + 1) = (1 + r1) % 4 + 1 := W_id (by omega) (by omega)
  simp only [spec_l17Right.f, q0, q1, q2, q3, q4, q5, q6, Option.bind_some, e4, cond_false, w0, w1, t1, w2]
  have hto : 1 ≤ (1 + r1) % 4 + 1 ∧ (1 + r1) % 4 + 1 ≤ 4 := by omega
  have hc7 : CurR n (c.1, c7.2.1, c7.2.2.1, ()) := h.mk' s6
  simp only [spec_l17Right.P2]
  cases hk : (1 + r0 == 3) with
  | true =>
    have hk' : 1 + r0 = 3 := eq_of_beq hk
    have w3 : IntKind.i64.wrap (r2 + 1) = r2 + 1 := W_id (by omega) (by omega)
    obtain ⟨r7, c8, q7, x7, y7, s7, _⟩ := below_some hc7 (k := r2 + 1) (by omega)
    have z7 := y7 (by omega)
    obtain ⟨es', c9, q8, k8, s8⟩ := ents_some Z_impl_Message (1 + r0, 1 + r1, (1 + r1) % 4 + 1, r2, r3, r7, r5, r6, [], [], ⟨#[]⟩, false, ()) (by simp only; omega) 5 0 r7 [] _ (by omega) (by omega) ⟨by simp, fun e he => by simp at he⟩ rfl (hc7.mk' s7)
    have q8' : spec_l17Right.L0 (((), (), (), r7, (0 : Int), ()), (((0, 0, 0, 0, 0, 0, 0, false, [], [], ⟨#[]⟩, false, ()) : T_impl_Message), (impl_Message.u5 ((1 + r0, 1 + r1, (1 + r1) % 4 + 1, r2, r3, r4, r5, r6, [], [], ⟨#[]⟩, false, ()) : T_impl_Message) r7), (c.1, c8.2.1, c8.2.2.1, ()), ())) = _ := q8
    simp only [cond_true, w3, q7, Option.bind_some, q8']
    exact ⟨_, _, rfl, ⟨k8, by simp, hto, fun e => by simp only at e; omega⟩, s8⟩
  | false =>
    simp only [cond_false, spec_l17Right.P1]
    cases hk5 : (1 + r0 == 5) with
    | false =>
      exact ⟨_, _, rfl, ⟨⟨by simp, fun e he => by simp at he⟩, by simp, hto, fun _ => by simp only; omega⟩, hc7⟩
    | true =>
      obtain ⟨cf, c8, q7, k7, s7⟩ := conf_some hc7
      obtain ⟨r8, c9, q8, x8, y8, s8, _⟩ := below_some (hc7.mk' s7) (k := 9) (by omega)
      have z8 := y8 (by omega)
      obtain ⟨tx, c10, q9, s9⟩ := text_some ((hc7.mk' s7).mk' s8) (k := r8) (by omega)
      obtain ⟨o, c11, q10, s10, _⟩ := once_some (((hc7.mk' s7).mk' s8).mk' s9) (k := 2) (by omega)
      simp only [cond_true, q7, Option.bind_some, q8, q9, q10]
      have hcl := confOk_len k7
      exact ⟨_, _, rfl, ⟨⟨by simp, fun e he => by simp at he⟩, by simp only; omega, hto, fun _ => by simp only; omega⟩, (((hc7.mk' s7).mk' s8).mk' s9).mk' s10⟩

theorem places_some {code : List Int} (h : code.length ≤ maxLen) : ∃ l, spec_DrawPlaces.f code = some ((l, ()), ()) ∧ l.length = 12 ∧ ∀ x, x ∈ l → 0 ≤ x := by
  obtain ⟨c, q0, s0⟩ := new_some h
  have s0' : CurR code.length (code, c.2.1, c.2.2.1, ()) := ⟨rfl, h, s0.pos⟩
  obtain ⟨x, c1, q1, _, s1, _⟩ := byte_some s0'
  obtain ⟨a, h1, h2, h3, h4⟩ := lim_ex (step := spec_DrawPlaces.S0) (fun i (a : List Int × T_spec_l01Cur) => (((), a.1, (i : Int), ()), (a.2, ()))) 12 (fun a => ((a.1, ()), ())) (fun i a => a.1.length = i ∧ (∀ x, x ∈ a.1 → 0 ≤ x) ∧ CurR code.length a.2)
    (fun i a hi hI => by
      obtain ⟨y, c', q, y0, _, s⟩ := below_big hI.2.2 (k := 10000) (by omega)
      have e : decide ((a.1.length + ([y] : List Int).length) * 8 ≤ 140737488355328) = true := big_app (by have := hI.1; unfold big; omega) (by simp [big]) (by omega)
      have e1 : decide ((i : Int) < 12) = true := by simp; omega
      have w : IntKind.i64.wrap ((i : Int) + 1) = ((i + 1 : Nat) : Int) := by rw [W_id (by omega) (by omega)]; omega
      refine ⟨(a.1 ++ [y], (a.2.1, c'.2.1, c'.2.2.1, ())), by simp only [spec_DrawPlaces.S0, e1, cond_true, q, Option.bind_some, e, w], by simp [hI.1], fun x hx => ?_, hI.2.2.mk' s⟩
      rcases List.mem_append.1 hx with hx | hx
      · exact hI.2.1 x hx
      · obtain rfl := List.mem_singleton.1 hx; exact y0)
    (fun a _ => by rfl) 12 0 ([], (code, c1.2.1, c1.2.2.1, ())) (by omega) ⟨rfl, fun x hx => by simp at hx, ⟨rfl, h, s1.pos⟩⟩
  have h1' : spec_DrawPlaces.L0 (((), ([] : List Int), (0 : Int), ()), ((code, c1.2.1, c1.2.2.1, ()), ())) = _ := h1
  simp only [spec_DrawPlaces.f, q0, Option.bind_some, q1, h1']
  exact ⟨_, rfl, h2, h3⟩

/-! ### nodes that are played -/
structure ClR (k : T_spec_l18Cluster) : Prop where
  four : k.1.length = 4
  ok : ∀ n, n ∈ k.1 → nodeOk n = true
  net : k.2.1.length ≤ 24
  msgs : ∀ m, m ∈ k.2.1 → MsgR m

theorem take_some {k : T_spec_l18Cluster} (h : ClR k) {at' : Nat} (ha : at' < 4) {x : T_impl_Node} (hx : nodeOk x = true) {told : List T_impl_Message} (ht : ToldR told) : ∃ k', spec_l18Take.f (at' : Int) x told k = some ((), (k', ())) ∧ ClR k' := by
  have hm : told.length ≤ maxLen := by have := ht.len; rw [maxLen_eq]; omega
  have e1 : decide ((at' : Int) < (k.1.length : Int)) = true := by rw [h.four]; simp; omega
  have hset : ClR (k.1.set at' x, k.2.1, ()) := ⟨by simp [h.four], fun n hn => by
    rcases List.mem_or_eq_of_mem_set hn with hn | rfl
    · exact h.ok n hn
    · exact hx, h.net, h.msgs⟩
  obtain ⟨k', h1, h2⟩ := lim_ex (step := spec_l18Take.S2) (fun i (k : T_spec_l18Cluster) => (((), told, (i : Int), ()), (k, ()))) told.length (fun k => ((), (k, ()))) (fun _ k => ClR k)
    (fun i k hi hI => by
      have e0 : told.getD ((i : Int)).toNat Z_impl_Message = told[i] := getD_at (List.getElem?_eq_getElem hi)
      have hP0 : spec_l18Take.P0 (((), told, (i : Int), ()), (k, ())) = some (((), told, (i : Int), decide ((k.2.1.length : Int) < 24) && told[i].1 != 5, ()), (k, ())) := by
        simp only [spec_l18Take.P0, ge0, lt_true hi, Bool.and_self, cond_true, e0]
        cases decide ((k.2.1.length : Int) < 24) <;> rfl
      have ecap : decide ((k.2.1.length + ([told[i]] : List T_impl_Message).length) * 136 ≤ 140737488355328) = true := big_app (by have := hI.net; unfold big; omega) (by simp [big]) (by omega)
      simp only [spec_l18Take.S2, lt_true hi, cond_true, hP0, Option.bind_some]
      cases hb : (decide ((k.2.1.length : Int) < 24) && told[i].1 != 5) with
      | false => exact ⟨k, by simp only [spec_l18Take.P1, cond_false, Option.bind_some, W_succ hi hm], hI⟩
      | true =>
        have hlt : k.2.1.length < 24 := by
          simp only [Bool.and_eq_true, decide_eq_true_eq] at hb; omega
        refine ⟨(k.1, k.2.1 ++ [told[i]], ()), by simp only [spec_l18Take.P1, cond_true, ge0, lt_true hi, Bool.and_self, e0, ecap, Option.bind_some, W_succ hi hm], ⟨hI.four, hI.ok, by simp; omega, fun m hm' => ?_⟩⟩
        rcases List.mem_append.1 hm' with hm' | hm'
        · exact hI.msgs m hm'
        · obtain rfl := List.mem_singleton.1 hm'; exact ht.all _ (List.getElem_mem hi))
    (fun _ _ => by simp only [spec_l18Take.S2, lt_false (Nat.le_refl _), cond_false]) told.length 0 (k.1.set at' x, k.2.1, ()) (by omega) hset
  have h1' : spec_l18Take.L2 (((), told, (0 : Int), ()), ((k.1.set at' x, k.2.1, ()), ())) = _ := h1
  obtain ⟨a1, a2, a3, a4, a5, a6, a7, a8, a9, a10, a11, a12, a13, a14, ⟨⟩⟩ := x
  refine ⟨k', ?_, h2⟩
  simp only [spec_l18Take.f, ge0, e1, Bool.and_self, cond_true, letv_eq, Int.toNat_natCast, h1', Option.bind_some]

theorem tick_node {n : T_impl_Node} (h : nodeOk n = true) {limit : Int} (hl : 1 ≤ limit ∧ limit ≤ 20) : ∃ x told, spec_Tick.f n limit = some ((x, told, true, ()), ()) ∧ nodeOk x = true ∧ ToldR told := by
  obtain ⟨id, term, vote, role, lead, conf, s, t, es, com, clk, li, votes, peers, ⟨⟩⟩ := n
  have hg := tickM_good h hl
  exact ⟨_, _, spec_tick h hl, hg.ok, hg.toldE⟩

theorem recv_node {n : T_impl_Node} (h : nodeOk n = true) {m : T_impl_Message} (hm : MsgR m) : ∃ x told ok, spec_Receive.f n m = some ((x, told, ok, ()), ()) ∧ (ok = true → nodeOk x = true ∧ ToldR told) := by
  obtain ⟨id, term, vote, role, lead, conf, s, t, es, com, clk, li, votes, peers, ⟨⟩⟩ := n
  obtain ⟨kind, mfrom, mto, mterm, mindex, mlt, mcom, mok, mes, mconf, mdata, mlast, ⟨⟩⟩ := m
  have hmc : mconf.length ≤ maxLen := by have := hm.conf; simp only at this; rw [maxLen_eq]; omega
  rw [spec_receive h hm.sm hmc (fun e => (hm.six e).2)]
  cases hb : (messageOk (kind, mfrom, mto, mterm, mindex, mlt, mcom, mok, mes, mconf, mdata, mlast, ()) && mto == id) with
  | false => exact ⟨_, _, _, rfl, fun e => by cases e⟩
  | true =>
    have hg := recvM_good h hm (Bool.and_eq_true_iff.1 hb).1
    exact ⟨_, _, _, rfl, fun _ => ⟨hg.ok, hg.toldE⟩⟩

theorem propose_node {n : T_impl_Node} (h : nodeOk n = true) (kind : Int) {data : ByteArray} (hd : data.size ≤ big) : ∃ x told ix ok, spec_Propose.f n kind data = some ((x, told, ix, ok, ()), ()) ∧ (ok = true → nodeOk x = true ∧ ToldR told) := by
  obtain ⟨id, term, vote, role, lead, conf, s, t, es, com, clk, li, votes, peers, ⟨⟩⟩ := n
  exact spec_propose kind h hd

theorem settle_node {n : T_impl_Node} (h : nodeOk n = true) (index : Int) : ∃ x ok, spec_Settle.f n index = some ((x, ok, ()), ()) ∧ (ok = true → nodeOk x = true) := by
  obtain ⟨id, term, vote, role, lead, conf, s, t, es, com, clk, li, votes, peers, ⟨⟩⟩ := n
  exact spec_settle index h

end Go.Proofs.YtnnnpppodblblaaGreat.Pu
/-
Plain laws: a play.
-/
namespace Go.Proofs.YtnnnpppodblblaaGreat.Pu
open Go Go.Proofs.YtnnnpppodblblaaGreat.Ev

theorem node_at {k : T_spec_l18Cluster} (h : ClR k) {a : Nat} (ha : a < 4) : nodeOk (k.1.getD ((a : Int)).toNat Z_impl_Node) = true ∧ decide ((a : Int) < (k.1.length : Int)) = true := by
  have hl := h.four
  have hlt : a < k.1.length := by omega
  have e0 : k.1.getD ((a : Int)).toNat Z_impl_Node = k.1[a] := getD_at (List.getElem?_eq_getElem hlt)
  exact ⟨by rw [e0]; exact h.ok _ (List.getElem_mem hlt), lt_true hlt⟩

/-- A message comes. -/
theorem play_net {n : Nat} (steps i : Int) {k : T_spec_l18Cluster} {c : T_spec_l01Cur} (hk : ClR k) (hc : CurR n c) :
    ∃ k' c', spec_l18Play.P11 (((), steps, (), i, decide ((k.2.1.length : Int) > 0), ()), (k, c, ())) = some (((), steps, (), i, ()), (k', c', ())) ∧ ClR k' ∧ CurR n c' := by
  cases hd : decide ((k.2.1.length : Int) > 0) with
  | false => exact ⟨_, _, rfl, hk, hc⟩
  | true =>
    have hpos := of_decide_eq_true hd
    have hnl := hk.net
    obtain ⟨r0, c1, q0, x0, y0, s0, _⟩ := below_some hc (k := (k.2.1.length : Int)) (by omega)
    obtain ⟨j, rfl⟩ : ∃ j : Nat, r0 = (j : Int) := ⟨r0.toNat, by omega⟩
    have hj : j < k.2.1.length := by have := y0 (by omega); omega
    obtain ⟨r1, c2, q1, s1, _⟩ := once_some (hc.mk' s0) (k := 8) (by omega)
    have e0 : k.2.1.getD ((j : Int)).toNat Z_impl_Message = k.2.1[j] := getD_at (List.getElem?_eq_getElem hj)
    have hmR := hk.msgs _ (List.getElem_mem hj)
    have hP9 : ∀ (b : Bool) (c : T_spec_l01Cur), ∃ k', spec_l18Play.P9 (((), steps, (), i, (j : Int), (), b, ()), (k.2.1[j], k, c, ())) = some (((), steps, (), i, (), ()), (k.2.1[j], k', c, ())) ∧ ClR k' := by
      intro b c
      cases b with
      | false => exact ⟨k, rfl, hk⟩
      | true =>
        have d1 : decide ((j : Int) ≤ (k.2.1.length : Int)) = true := by simp; omega
        have w : IntKind.i64.wrap ((j : Int) + 1) = ((j + 1 : Nat) : Int) := by rw [W_id (by omega) (by omega)]; omega
        have d2 : decide (((j + 1 : Nat) : Int) ≤ (k.2.1.length : Int)) = true := by simp; omega
        have d3 : decide ((([] : List T_impl_Message).length + (k.2.1.take j).length) * 136 ≤ 140737488355328) = true := big_app (by simp) (by unfold big; simp; omega) (by omega)
        have d4 : decide (((k.2.1.take j).length + (k.2.1.drop (j + 1)).length) * 136 ≤ 140737488355328) = true := big_app (by unfold big; simp; omega) (by unfold big; simp; omega) (by omega)
        refine ⟨(k.1, k.2.1.take j ++ k.2.1.drop (j + 1), ()), ?_, ⟨hk.four, hk.ok, by simp; omega, fun m hm => ?_⟩⟩
        · simp only [spec_l18Play.P9, cond_true, ge0, d1, Bool.and_self, Bool.and_true, Int.toNat_natCast, Int.toNat_zero, List.drop_zero, d3, w, d2, Bool.true_and, List.take_length, letv_eq, List.nil_append, d4]
        · rcases List.mem_append.1 hm with hm | hm
          · exact hk.msgs m (List.mem_of_mem_take hm)
          · exact hk.msgs m (List.mem_of_mem_drop hm)
    obtain ⟨k1, q2, hk1⟩ := hP9 (!r1) (c.1, c2.2.1, c2.2.2.1, ())
    obtain ⟨a, ha⟩ : ∃ a : Nat, k.2.1[j].2.2.1 - 1 = (a : Int) := ⟨(k.2.1[j].2.2.1 - 1).toNat, by have := hmR.to; omega⟩
    have ha4 : a < 4 := by have := hmR.to; omega
    have w1 : IntKind.i64.wrap (k.2.1[j].2.2.1 - 1) = (a : Int) := by have := hmR.to; rw [W_id (by omega) (by omega)]; exact ha
    obtain ⟨hn, hd2⟩ := node_at hk1 ha4
    obtain ⟨x, told, ok, q3, hx⟩ := recv_node hn hmR
    simp only [spec_l18Play.P11, cond_true, q0, Option.bind_some, ge0, lt_true hj, Bool.and_self, q1, e0, q2, w1, hd2, q3, spec_l18Play.P10]
    cases ok with
    | false => exact ⟨_, _, rfl, hk1, (hc.mk' s1)⟩
    | true =>
      obtain ⟨h1, h2⟩ := hx rfl
      obtain ⟨k2, q4, hk2⟩ := take_some hk1 ha4 h1 h2
      simp only [cond_true, q4, Option.bind_some]
      exact ⟨_, _, rfl, hk2, (hc.mk' s1)⟩

/-- A log is settled. -/
theorem play_settle {n : Nat} (steps i : Int) {k : T_spec_l18Cluster} {c : T_spec_l01Cur} (hk : ClR k) (hc : CurR n c) {a : Nat} (ha : a < 4) (b : Bool) :
    ∃ k' c', spec_l18Play.P8 (((), steps, (), i, (a : Int), b, ()), (k, c, ())) = some (((), steps, (), i, ()), (k', c', ())) ∧ ClR k' ∧ CurR n c' := by
  cases b with
  | false => exact ⟨_, _, rfl, hk, hc⟩
  | true =>
    obtain ⟨hn, hd⟩ := node_at hk ha
    obtain ⟨r0, c1, q0, _, _, s0, _⟩ := below_some hc (k := 2) (by omega)
    obtain ⟨x, ok, q1, hx⟩ := settle_node hn (IntKind.i64.wrap ((k.1.getD ((a : Int)).toNat Z_impl_Node).2.2.2.2.2.2.2.2.2.1 - r0))
    simp only [spec_l18Play.P8, cond_true, ge0, hd, Bool.and_self, q0, Option.bind_some, q1, spec_l18Play.P7]
    cases ok with
    | false => exact ⟨_, _, rfl, hk, hc.mk' s0⟩
    | true =>
      obtain ⟨a1, a2, a3, a4, a5, a6, a7, a8, a9, a10, a11, a12, a13, a14, ⟨⟩⟩ := x
      simp only [cond_true, letv_eq, Option.bind_some]
      refine ⟨_, _, rfl, ⟨by simp [hk.four], fun m hm => ?_, hk.net, hk.msgs⟩, hc.mk' s0⟩
      rcases List.mem_or_eq_of_mem_set hm with hm | rfl
      · exact hk.ok m hm
      · exact hx rfl

theorem play_lead {n : Nat} (steps i : Int) {k : T_spec_l18Cluster} (c : T_spec_l01Cur) (hk : ClR k) {a : Nat} (ha : a < 4) :
    ∃ a', spec_l18Play.L5 (((), steps, (), i, (a : Int), (0 : Int), ()), (k, c, ())) = some (((), steps, (), i, ((a' : Nat) : Int), ()), (k, c, ())) ∧ a' < 4 :=
  lim_ex (step := spec_l18Play.S5) (fun j (a : Nat) => (((), steps, (), i, (a : Int), (j : Int), ()), (k, c, ()))) 4 (fun a => (((), steps, (), i, (a : Int), ()), (k, c, ()))) (fun _ a => a < 4)
    (fun j a hj hI => by
      obtain ⟨_, hd⟩ := node_at hk hj
      have e1 : decide ((j : Int) < 4) = true := by simp; omega
      have w : IntKind.i64.wrap ((j : Int) + 1) = ((j + 1 : Nat) : Int) := by rw [W_id (by omega) (by omega)]; omega
      simp only [spec_l18Play.S5, e1, cond_true, ge0, hd, Bool.and_self, spec_l18Play.P4]
      cases ((k.1.getD ((j : Int)).toNat Z_impl_Node).2.2.2.1 == 2)
      · exact ⟨a, by simp only [cond_false, Option.bind_some, w], hI⟩
      · exact ⟨j, by simp only [cond_true, Option.bind_some, w], hj⟩)
    (fun _ _ => by rfl) 4 0 a (by omega) ha

theorem play_propose {n : Nat} (steps i : Int) {k : T_spec_l18Cluster} {c : T_spec_l01Cur} (hk : ClR k) (hc : CurR n c) {a : Nat} (ha : a < 4) (t : Int) :
    ∃ k' c', spec_l18Play.P13 (((), steps, (), i, (a : Int), t, t == 2, ()), (k, c, ())) = some (((), steps, (), i, ()), (k', c', ())) ∧ ClR k' ∧ CurR n c' := by
  cases ht : t == 2 with
  | true =>
    obtain ⟨a', q0, ha'⟩ := play_lead (n := n) steps i c hk ha
    obtain ⟨hn, hd⟩ := node_at hk ha'
    obtain ⟨e, c1, q1, ke, s1⟩ := right05_some hc (k.1.getD ((a' : Int)).toNat Z_impl_Node).2.1
    obtain ⟨x, told, ix, ok, q2, hx⟩ := propose_node hn e.2.1 ke
    simp only [spec_l18Play.P13, cond_true, q0, Option.bind_some, ge0, hd, Bool.and_self, q1, q2, spec_l18Play.P6]
    cases ok with
    | false => exact ⟨_, _, rfl, hk, hc.mk' s1⟩
    | true =>
      obtain ⟨h1, h2⟩ := hx rfl
      obtain ⟨k2, q4, hk2⟩ := take_some hk ha' h1 h2
      simp only [cond_true, q4, Option.bind_some]
      exact ⟨_, _, rfl, hk2, hc.mk' s1⟩
  | false =>
    simp only [spec_l18Play.P13, cond_false, spec_l18Play.P12]
    cases t == 3 with
    | true =>
      obtain ⟨b, c1, q0, s0, _⟩ := once_some hc (k := 3) (by omega)
      obtain ⟨k1, c2, q1, hk1, s1⟩ := play_settle steps i hk (hc.mk' s0) ha b
      simp only [cond_true, q0, Option.bind_some, q1]
      exact ⟨_, _, rfl, hk1, s1⟩
    | false =>
      obtain ⟨k1, c2, q1, hk1, s1⟩ := play_net steps i hk hc
      simp only [cond_false, q1, Option.bind_some]
      exact ⟨_, _, rfl, hk1, s1⟩

theorem play_step {n : Nat} (steps i : Int) {k : T_spec_l18Cluster} {c : T_spec_l01Cur} (hk : ClR k) (hc : CurR n c) {a : Nat} (ha : a < 4) (t : Int) (b : Bool) :
    ∃ k' c', spec_l18Play.P14 (((), steps, (), i, (a : Int), t, b, ()), (k, c, ())) = some (((), steps, (), i, ()), (k', c', ())) ∧ ClR k' ∧ CurR n c' := by
  cases b with
  | true =>
    obtain ⟨hn, hd⟩ := node_at hk ha
    obtain ⟨r0, c1, q0, x0, y0, s0, _⟩ := below_some hc (k := 6) (by omega)
    have z0 := y0 (by omega)
    have w : IntKind.i64.wrap (1 + r0) = 1 + r0 := W_id (by omega) (by omega)
    obtain ⟨x, told, q1, h1, h2⟩ := tick_node hn (limit := 1 + r0) (by omega)
    obtain ⟨k2, q4, hk2⟩ := take_some hk ha h1 h2
    simp only [spec_l18Play.P14, cond_true, ge0, hd, Bool.and_self, q0, Option.bind_some, w, q1, spec_l18Play.P3, q4]
    exact ⟨_, _, rfl, hk2, hc.mk' s0⟩
  | false =>
    obtain ⟨k1, c2, q1, hk1, s1⟩ := play_propose steps i hk hc ha t
    simp only [spec_l18Play.P14, cond_false, q1, Option.bind_some]
    exact ⟨_, _, rfl, hk1, s1⟩

theorem play_loop {n : Nat} {steps : Int} (hst : steps ≤ 1000000) {k : T_spec_l18Cluster} {c : T_spec_l01Cur} (hk : ClR k) (hc : CurR n c) :
    ∃ k' c', spec_l18Play.L15 (((), steps, (), (0 : Int), ()), (k, c, ())) = some (((), ()), (k', c', ())) ∧ ClR k' ∧ CurR n c' := by
  obtain ⟨a, h1, h2, h3⟩ := lim_ex (step := spec_l18Play.S15) (fun i (a : T_spec_l18Cluster × T_spec_l01Cur) => (((), steps, (), (i : Int), ()), (a.1, a.2, ()))) steps.toNat (fun a => (((), ()), (a.1, a.2, ()))) (fun _ a => ClR a.1 ∧ CurR n a.2)
    (fun i a hi hI => by
      have e1 : decide ((i : Int) < steps) = true := by simp; omega
      have w : IntKind.i64.wrap ((i : Int) + 1) = ((i + 1 : Nat) : Int) := by rw [W_id (by omega) (by omega)]; omega
      obtain ⟨r0, c1, q0, x0, y0, s0, _⟩ := below_some hI.2 (k := 4) (by omega)
      obtain ⟨j, rfl⟩ : ∃ j : Nat, r0 = (j : Int) := ⟨r0.toNat, by omega⟩
      have hj : j < 4 := by have := y0 (by omega); omega
      obtain ⟨r1, c2, q1, _, _, s1, _⟩ := below_some (hI.2.mk' s0) (k := 9) (by omega)
      have hP2 : ∀ (b : Bool) (k : T_spec_l18Cluster) (c : T_spec_l01Cur), ∃ b', spec_l18Play.P2 (((), steps, (), (i : Int), (j : Int), r1, b, ()), (k, c, ())) = some (((), steps, (), (i : Int), (j : Int), r1, b', ()), (k, c, ())) := by
        intro b k c; cases b <;> exact ⟨_, rfl⟩
      obtain ⟨b', q2⟩ := hP2 (r1 == 0) a.1 (a.2.1, c2.2.1, c2.2.2.1, ())
      obtain ⟨k', c', q3, k3, s3⟩ := play_step steps (i : Int) hI.1 (hI.2.mk' s1) hj r1 b'
      exact ⟨(k', c'), by simp only [spec_l18Play.S15, e1, cond_true, q0, Option.bind_some, q1, q2, q3, w], k3, s3⟩)
    (fun a _ => by
      have e1 : decide (((steps.toNat : Nat) : Int) < steps) = false := by simp; omega
      simp only [spec_l18Play.S15, e1, cond_false]) steps.toNat 0 (k, c) (by omega) ⟨hk, hc⟩
  exact ⟨a.1, a.2, h1, h2, h3⟩

theorem play_new {n : Nat} (steps : Int) {conf : List Int} (hcf : confOk conf = true) {c : T_spec_l01Cur} (hc : CurR n c) :
    ∃ k' c', spec_l18Play.L1 (((), steps, (), conf, (1 : Int), ()), ((([], [], ()) : T_spec_l18Cluster), c, ())) = some (((), steps, (), ()), (k', c', ())) ∧ ClR k' ∧ CurR n c' := by
  have hcl := confOk_len hcf
  obtain ⟨a, h1, h2, h3, h4⟩ := lim_ex (step := spec_l18Play.S1) (fun i (a : List T_impl_Node × T_spec_l01Cur) => (((), steps, (), conf, ((i + 1 : Nat) : Int), ()), (((a.1, [], ()) : T_spec_l18Cluster), a.2, ()))) 4 (fun a => (((), steps, (), ()), (((a.1, [], ()) : T_spec_l18Cluster), a.2, ()))) (fun i a => a.1.length = i ∧ (∀ x, x ∈ a.1 → nodeOk x = true) ∧ CurR n a.2)
    (fun i a hi hI => by
      have e1 : decide (((i + 1 : Nat) : Int) ≤ 4) = true := by simp; omega
      have w : IntKind.i64.wrap (((i + 1 : Nat) : Int) + 1) = ((i + 1 + 1 : Nat) : Int) := by rw [W_id (by omega) (by omega)]; omega
      obtain ⟨r0, c1, q0, x0, y0, s0, _⟩ := below_some hI.2.2 (k := 4) (by omega)
      have z0 := y0 (by omega)
      have w1 : IntKind.i64.wrap (1 + r0) = 1 + r0 := W_id (by omega) (by omega)
      have hn := nodeOk_new (id := ((i + 1 : Nat) : Int)) (by omega) hcf (li := 20) (by omega)
      have hn' := nodeOk_new (id := ((i + 1 : Nat) : Int)) (by omega) hcf (li := 1 + r0) (by omega)
      have q1 := spec_nodeNew_eq ((i + 1 : Nat) : Int) conf (by omega)
      rw [hn] at q1
      have ecap : ∀ x : T_impl_Node, decide ((a.1.length + ([x] : List T_impl_Node).length) * 176 ≤ 140737488355328) = true := fun x => big_app (by have := hI.1; unfold big; omega) (by simp [big]) (by omega)
      refine ⟨(a.1 ++ [(((i + 1 : Nat) : Int), 0, 0, 0, 0, conf, 0, 0, [], 0, 0, 1 + r0, [], [], ())], (a.2.1, c1.2.1, c1.2.2.1, ())), ?_, by simp [hI.1], fun x hx => ?_, hI.2.2.mk' s0⟩
      · simp only [spec_l18Play.S1, e1, cond_true, q1, Option.bind_some, q0, w1, ecap, w]
      · rcases List.mem_append.1 hx with hx | hx
        · exact hI.2.1 x hx
        · obtain rfl := List.mem_singleton.1 hx; exact hn')
    (fun a _ => by rfl) 4 0 ([], c) (by omega) ⟨rfl, fun x hx => by simp at hx, hc⟩
  exact ⟨(a.1, [], ()), a.2, h1, ⟨h2, h3, by simp, fun m hm => by simp at hm⟩, h4⟩

theorem play_some {n : Nat} {steps : Int} (hst : steps ≤ 1000000) {c : T_spec_l01Cur} (hc : CurR n c) : ∃ k c', spec_l18Play.f steps c = some (((), ()), (k, (c', ()))) ∧ ClR k ∧ CurR n c' := by
  obtain ⟨b, c1, q0, s0, _⟩ := once_some hc (k := 3) (by omega)
  have hP0 : ∀ (k : T_spec_l18Cluster), ∃ conf c', spec_l18Play.P0 (((), steps, (), [1, 2, 3], b, ()), (k, (c.1, c1.2.1, c1.2.2.1, ()), ())) = some (((), steps, (), conf, ()), (k, c', ())) ∧ confOk conf = true ∧ CurR n c' := by
    intro k
    cases b with
    | false => exact ⟨_, _, rfl, by decide, hc.mk' s0⟩
    | true =>
      obtain ⟨cf, c2, q1, k1, s1⟩ := conf_some (hc.mk' s0)
      simp only [spec_l18Play.P0, cond_true, q1, Option.bind_some]
      exact ⟨_, _, rfl, k1, (hc.mk' s0).mk' s1⟩
  obtain ⟨conf, c2, q1, hcf, s1⟩ := hP0 ([], [], ())
  obtain ⟨k, c3, q2, hk, s2⟩ := play_new steps hcf s1
  obtain ⟨k', c4, q3, hk', s3⟩ := play_loop hst hk s2
  simp only [spec_l18Play.f, q0, Option.bind_some, q1, q2, q3]
  exact ⟨_, _, rfl, hk', s3⟩

end Go.Proofs.YtnnnpppodblblaaGreat.Pu
/-
Plain laws: the law of FnNodes.
-/
namespace Go.Proofs.YtnnnpppodblblaaGreat.Pu
open Go Go.Proofs.YtnnnpppodblblaaGreat.Ev

theorem drawNode_some {code : List Int} (h : code.length ≤ maxLen) : ∃ n m, spec_DrawRightNode.f code = some ((n, m, ()), ()) ∧ nodeOk n = true ∧ MsgR m := by
  obtain ⟨c, q0, s0⟩ := new_some h
  obtain ⟨st, q1, hst⟩ := steps_some h
  have cur : ∀ {c : T_spec_l01Cur}, CurR code.length c → CurR code.length (code, c.2.1, c.2.2.1, ()) := fun h' => ⟨rfl, h, h'.pos⟩
  obtain ⟨k, c1, q2, hk, s1⟩ := play_some (show st ≤ 1000000 by omega) (cur s0)
  obtain ⟨r0, c2, q3, x0, y0, s2, _⟩ := below_some (cur s1) (k := 4) (by omega)
  obtain ⟨a, rfl⟩ : ∃ a : Nat, r0 = (a : Int) := ⟨r0.toNat, by omega⟩
  have ha : a < 4 := by have := y0 (by omega); omega
  obtain ⟨m, c3, q4, hm, s3⟩ := right17_some (cur s2)
  have hnl := hk.net
  have hP0 : ∀ (z1 : T_impl_Node) (z2 : T_impl_Message) (c : T_spec_l01Cur), CurR code.length c → ∃ b c', spec_DrawRightNode.P0 (((), (), (), (), (a : Int), (), ()), (z1, z2, m, c, k, ())) = some (((), (), (), (), (a : Int), (), b, ()), (z1, z2, m, c', k, ())) ∧ CurR code.length c' ∧ (b = true → 0 < k.2.1.length) := by
    intro z1 z2 c hc
    simp only [spec_DrawRightNode.P0]
    cases hd : decide ((k.2.1.length : Int) > 0) with
    | false => exact ⟨_, _, rfl, hc, fun e => by cases e⟩
    | true =>
      have := of_decide_eq_true hd
      obtain ⟨b, c', q, s, _⟩ := once_some hc (k := 3) (by omega)
      simp only [cond_true, q, Option.bind_some]
      exact ⟨_, _, rfl, hc.mk' s, fun _ => by omega⟩
  have hP1 : ∀ (z1 : T_impl_Node) (z2 : T_impl_Message) (b : Bool) (c : T_spec_l01Cur), CurR code.length c → (b = true → 0 < k.2.1.length) → ∃ (a' : Nat) (m' : T_impl_Message), spec_DrawRightNode.P1 (((), (), (), (), (a : Int), (), b, ()), (z1, z2, m, c, k, ())) = some (((), (), (), (a' : Int), (), ()), (z1, z2, m', k, ())) ∧ a' < 4 ∧ MsgR m' := by
    intro z1 z2 b c hc hb
    cases b with
    | false => exact ⟨a, m, rfl, ha, hm⟩
    | true =>
      have hpos := hb rfl
      obtain ⟨r0, c1, q0, x0, y0, s0, _⟩ := below_some hc (k := (k.2.1.length : Int)) (by omega)
      obtain ⟨j, rfl⟩ : ∃ j : Nat, r0 = (j : Int) := ⟨r0.toNat, by omega⟩
      have hj : j < k.2.1.length := by have := y0 (by omega); omega
      have e0 : k.2.1.getD ((j : Int)).toNat Z_impl_Message = k.2.1[j] := getD_at (List.getElem?_eq_getElem hj)
      have hmR := hk.msgs _ (List.getElem_mem hj)
      have hto := hmR.to
      have w1 : IntKind.i64.wrap (k.2.1[j].2.2.1 - 1) = (((k.2.1[j].2.2.1 - 1).toNat : Nat) : Int) := by rw [W_id (by omega) (by omega)]; omega
      refine ⟨(k.2.1[j].2.2.1 - 1).toNat, k.2.1[j], ?_, by omega, hmR⟩
      simp only [spec_DrawRightNode.P1, cond_true, q0, Option.bind_some, ge0, lt_true hj, Bool.and_self, e0, w1]
  obtain ⟨b, c4, q5, s4, hb⟩ := hP0 (0, 0, 0, 0, 0, [], 0, 0, [], 0, 0, 0, [], [], ()) (0, 0, 0, 0, 0, 0, 0, false, [], [], ⟨#[]⟩, false, ()) (code, c3.2.1, c3.2.2.1, ()) (cur s3)
  obtain ⟨a', m', q6, ha', hm'⟩ := hP1 (0, 0, 0, 0, 0, [], 0, 0, [], 0, 0, 0, [], [], ()) (0, 0, 0, 0, 0, 0, 0, false, [], [], ⟨#[]⟩, false, ()) b c4 s4 hb
  have w : IntKind.i64.wrap ((a' : Int) + 1) = (a' : Int) + 1 := W_id (by omega) (by omega)
  obtain ⟨hn, hd⟩ := node_at hk ha'
  obtain ⟨kind, mfrom, mto, mterm, mindex, mlt, mcom, mok, mes, mconf, mdata, mlast, ⟨⟩⟩ := m'
  have hP2 : ∀ (z1 : T_impl_Node) (z2 : T_impl_Message) (b : Bool), ∃ f', spec_DrawRightNode.P2 (((), (), (), (a' : Int), (), b, ()), (z1, z2, ((kind, mfrom, (a' : Int) + 1, mterm, mindex, mlt, mcom, mok, mes, mconf, mdata, mlast, ()) : T_impl_Message), k, ())) = some (((), (), (), (a' : Int), (), ()), (z1, z2, ((kind, f', (a' : Int) + 1, mterm, mindex, mlt, mcom, mok, mes, mconf, mdata, mlast, ()) : T_impl_Message), k, ())) := by
    intro z1 z2 b
    cases b <;> exact ⟨_, rfl⟩
  obtain ⟨f', q7⟩ := hP2 (0, 0, 0, 0, 0, [], 0, 0, [], 0, 0, 0, [], [], ()) (0, 0, 0, 0, 0, 0, 0, false, [], [], ⟨#[]⟩, false, ()) (mfrom == (a' : Int) + 1)
  simp only [spec_DrawRightNode.f, q0, Option.bind_some, q1, q2, q3, q4, q5, q6, w, q7, ge0, hd, Bool.and_self, cond_true]
  exact ⟨_, _, rfl, hn, ⟨hm'.sm, hm'.conf, by simp only; omega, hm'.six⟩⟩

theorem law_entries {id term vote role lead : Int} {conf : List Int} {s t : Int} {es : List T_impl_Entry} {com clk li : Int} {votes : List Int} {peers : List T_impl_Peer} {x : T_impl_Node} {told : List T_impl_Message} (list : List T_impl_Node) (k0 : Int)
    (h : nodeOk (id, term, vote, role, lead, conf, s, t, es, com, clk, li, votes, peers, ()) = true) (hg : Good id term vote s es com x told) :
    laws_FnNodes.L4 (((), list, k0, (), s + 1, ()), (((id, term, vote, role, lead, conf, s, t, es, com, clk, li, votes, peers, ()) : T_impl_Node), x, ())) = some (.inl (((), list, k0, ()), ((id, term, vote, role, lead, conf, s, t, es, com, clk, li, votes, peers, ()), ()))) := by
  obtain ⟨hB, _⟩ := nodeOk_iff.1 h
  have hl := logOk_iff.1 hB.logR
  have hcm := hB.cm
  obtain ⟨xid, xterm, xvote, xrole, xlead, xconf, xs, xt, xes, xcom, xclk, xli, xvotes, xpeers, ⟨⟩⟩ := x
  obtain ⟨xB, _⟩ := nodeOk_iff.1 hg.ok
  have xcm := xB.cm
  have hst := hg.start
  have hcg := hg.comG
  have hkp := hg.kept
  simp only at hst hcg hkp
  subst hst
  obtain ⟨_, h1, _⟩ := lim_ex (step := laws_FnNodes.S4) (fun j (_ : Unit) => (((), list, k0, (), xs + 1 + (j : Int), ()), (((id, term, vote, role, lead, conf, xs, t, es, com, clk, li, votes, peers, ()) : T_impl_Node), ((xid, xterm, xvote, xrole, xlead, xconf, xs, xt, xes, xcom, xclk, xli, xvotes, xpeers, ()) : T_impl_Node), ()))) (com - xs).toNat
    (fun _ => .inl (((), list, k0, ()), ((id, term, vote, role, lead, conf, xs, t, es, com, clk, li, votes, peers, ()), ()))) (fun _ _ => True)
    (fun j _ hj _ => by
      have e1 : decide (xs + 1 + (j : Int) ≤ com) = true := by simp; omega
      have w1 : IntKind.i64.wrap (IntKind.i64.wrap (xs + 1 + (j : Int) - xs) - 1) = (j : Int) := by rw [W_id (x := xs + 1 + (j : Int) - xs) (by omega) (by omega), W_id (by omega) (by omega)]; omega
      have w2 : IntKind.i64.wrap (xs + 1 + (j : Int) + 1) = xs + 1 + ((j + 1 : Nat) : Int) := by rw [W_id (by omega) (by omega)]; omega
      have hjn : j < es.length := by omega
      have hjx : j < xes.length := by omega
      have e2 : decide ((j : Int) ≥ (xes.length : Int)) = false := by simp; omega
      have hkk := hkp j (by omega)
      rw [List.getElem?_eq_getElem hjn, List.getElem?_eq_getElem hjx] at hkk
      have heq : xes[j] = es[j] := Option.some.inj hkk
      have e3 : xes.getD ((j : Int)).toNat Z_impl_Entry = es[j] := (getD_at (List.getElem?_eq_getElem hjx)).trans heq
      have e4 : es.getD ((j : Int)).toNat Z_impl_Entry = es[j] := getD_at (List.getElem?_eq_getElem hjn)
      refine ⟨(), ?_, trivial⟩
      simp only [laws_FnNodes.S4, e1, cond_true, laws_FnNodes.P3, w1, letv_eq, e2, cond_false, ge0, lt_true hjx, lt_true hjn, Bool.and_self, e3, e4, beq_self_eq_true, Bool.not_true, Option.bind_some, w2])
    (fun _ _ => by
      have e1 : decide (xs + 1 + (((com - xs).toNat : Nat) : Int) ≤ com) = false := by simp; omega
      simp only [laws_FnNodes.S4, e1, cond_false]) (com - xs).toNat 0 () (by omega) trivial
  have e0 : xs + 1 + ((0 : Nat) : Int) = xs + 1 := by omega
  rw [e0] at h1
  exact h1

theorem law_node {id term vote role lead : Int} {conf : List Int} {s t : Int} {es : List T_impl_Entry} {com clk li : Int} {votes : List Int} {peers : List T_impl_Peer} {x : T_impl_Node} {told : List T_impl_Message} (list : List T_impl_Node) (k0 : Int)
    (h : nodeOk (id, term, vote, role, lead, conf, s, t, es, com, clk, li, votes, peers, ()) = true) (hg : Good id term vote s es com x told) :
    laws_FnNodes.P2 (((), list, k0, (), ()), (((id, term, vote, role, lead, conf, s, t, es, com, clk, li, votes, peers, ()) : T_impl_Node), x, ())) = some (((), list, k0, (), false, ()), (((id, term, vote, role, lead, conf, s, t, es, com, clk, li, votes, peers, ()) : T_impl_Node), x, ())) := by
  obtain ⟨xid, xterm, xvote, xrole, xlead, xconf, xs, xt, xes, xcom, xclk, xli, xvotes, xpeers, ⟨⟩⟩ := x
  obtain ⟨xB, hv, hle, hr, hck, hli, hvs, hvr, hps⟩ := nodeOk_iff.1 hg.ok
  have hcl := confOk_len xB.confR
  have hcn := confOk_len (confNow_ok xes xB.confR)
  have hpl := peersOk_len hps
  have hvl := rise_len4 hvs
  have hC := xB.cr (peers := xpeers) (by omega)
  have h1 := hg.idE
  have h2 := hg.termG
  have h3 := hg.comG
  have h4 := hg.voteE
  simp only at h1 h2 h3 h4
  have d1 : decide (xterm < term) = false := by simp; omega
  have d2 : decide (xcom < com) = false := by simp; omega
  have d3 : (xid != id) = false := by simp [h1]
  simp only [laws_FnNodes.P2, impl_nodeOk_eq xid xterm xvote xrole xlead xconf xs xt xes xcom xclk xli xvotes xpeers hC.sm (by rw [maxLen_eq]; omega) (by rw [maxLen_eq]; omega) (by unfold big; omega), hg.ok, Option.bind_some, Bool.not_true, cond_false, d1, d2, d3]
  cases ht : xterm == term with
  | false => rfl
  | true =>
    have ht' := eq_of_beq ht
    cases hvo : vote != 0 with
    | false => rfl
    | true =>
      have hne : vote ≠ 0 := by simpa using hvo
      have := h4 ht' hne
      have e : (xvote != vote) = false := by simp [this]
      simp only [cond_true, e]

/-- The nodes of a list are as the law says. -/
theorem law_list {id term vote role lead : Int} {conf : List Int} {s t : Int} {es : List T_impl_Entry} {com clk li : Int} {votes : List Int} {peers : List T_impl_Peer} (list : List T_impl_Node) (hl : list.length ≤ 100)
    (h : nodeOk (id, term, vote, role, lead, conf, s, t, es, com, clk, li, votes, peers, ()) = true) (hg : ∀ x, x ∈ list → ∃ told, Good id term vote s es com x told) :
    laws_FnNodes.L5 (((), list, (0 : Int), ()), (((id, term, vote, role, lead, conf, s, t, es, com, clk, li, votes, peers, ()) : T_impl_Node), ())) = some (.inl ((), ())) := by
  obtain ⟨hB, _⟩ := nodeOk_iff.1 h
  have hlo := logOk_iff.1 hB.logR
  have w : IntKind.i64.wrap (s + 1) = s + 1 := W_id (by omega) (by omega)
  obtain ⟨_, h1, _⟩ := lim_ex (step := laws_FnNodes.S5) (fun j (_ : Unit) => (((), list, (j : Int), ()), (((id, term, vote, role, lead, conf, s, t, es, com, clk, li, votes, peers, ()) : T_impl_Node), ()))) list.length
    (fun _ => .inl ((), ())) (fun _ _ => True)
    (fun j _ hj _ => by
      have e0 : list.getD ((j : Int)).toNat Z_impl_Node = list[j] := getD_at (List.getElem?_eq_getElem hj)
      obtain ⟨told, hx⟩ := hg _ (List.getElem_mem hj)
      refine ⟨(), ?_, trivial⟩
      simp only [laws_FnNodes.S5, lt_true hj, cond_true, ge0, Bool.and_self, e0, law_node list (j : Int) h hx, Option.bind_some, cond_false, w, law_entries list (j : Int) h hx, W_succ hj (show list.length ≤ maxLen by rw [maxLen_eq]; omega)])
    (fun _ _ => by simp only [laws_FnNodes.S5, lt_false (Nat.le_refl _), cond_false]) list.length 0 () (by omega) trivial
  exact h1

/-- The law holds for all codes. -/
theorem fnNodes_true (code : List Int) : laws_FnNodes.f code = some ((true, ()), ()) := by
  simp only [laws_FnNodes.f, laws_big.f, Option.bind_some]
  cases hb : decide ((code.length : Int) > 1048576) with
  | true => rfl
  | false =>
  have hb' := of_decide_eq_false hb
  have hlen : code.length ≤ maxLen := by rw [maxLen_eq]; omega
  obtain ⟨n, m, q1, hn, hm⟩ := drawNode_some hlen
  obtain ⟨l, q2, hl, hl0⟩ := places_some hlen
  obtain ⟨id, term, vote, role, lead, conf, s, t, es, com, clk, li, votes, peers, ⟨⟩⟩ := n
  obtain ⟨kind, mfrom, mto, mterm, mindex, mlt, mcom, mok, mes, mconf, mdata, mlast, ⟨⟩⟩ := m
  obtain ⟨hB, hv, hle, hr, hck, hli, hvs, hvr, hps⟩ := nodeOk_iff.1 hn
  have hcl := confOk_len hB.confR
  have hcn := confOk_len (confNow_ok es hB.confR)
  have hpl := peersOk_len hps
  have hvl := rise_len4 hvs
  have hC := hB.cr (peers := peers) (by omega)
  have hmc : mconf.length ≤ maxLen := by have := hm.conf; simp only at this; rw [maxLen_eq]; omega
  have d1 : decide ((0 : Int) < (l.length : Int)) = true := by rw [hl]; decide
  have e20 : ((20 : Int) == 0) = false := rfl
  have hx0 : 0 ≤ l.getD ((0 : Int)).toNat 0 := by
    have : 0 < l.length := by omega
    rw [show l.getD ((0 : Int)).toNat 0 = l[0] by simp [List.getD, List.getElem?_eq_getElem this]]
    exact hl0 _ (List.getElem_mem this)
  have hlim : 1 ≤ 1 + (l.getD ((0 : Int)).toNat 0).tmod 20 ∧ 1 + (l.getD ((0 : Int)).toNat 0).tmod 20 ≤ 20 := by
    rw [Int.tmod_eq_emod_of_nonneg hx0]; omega
  have w : IntKind.i64.wrap (1 + (l.getD ((0 : Int)).toNat 0).tmod 20) = 1 + (l.getD ((0 : Int)).toNat 0).tmod 20 := W_id (by omega) (by omega)
  have gt := tickM_good hn hlim
  have q3 := impl_tick hn hlim
  have q4 := impl_receive (kind := kind) (mfrom := mfrom) (mto := mto) (mterm := mterm) (mindex := mindex) (mlt := mlt) (mcom := mcom) (mok := mok) (mdata := mdata) (mlast := mlast) hn hm.sm hmc
  have q5 := spec_receive (kind := kind) (mfrom := mfrom) (mto := mto) (mterm := mterm) (mindex := mindex) (mlt := mlt) (mcom := mcom) (mok := mok) (mdata := mdata) (mlast := mlast) hn hm.sm hmc (fun e => (hm.six e).2)
  simp only [cond_false, q1, Option.bind_some, impl_nodeOk_eq id term vote role lead conf s t es com clk li votes peers hC.sm (by rw [maxLen_eq]; omega) (by rw [maxLen_eq]; omega) (by unfold big; omega), hn, Bool.not_true, q2, d1, Bool.and_true, show decide ((0 : Int) ≤ 0) = true from rfl, cond_true, e20, w, q3]
  have hlen2 : ∀ a : T_impl_Node, decide (([((tickM (id, term, vote, role, lead, conf, s, t, es, com, clk, li, votes, peers, ()) (1 + (l.getD ((0 : Int)).toNat 0).tmod 20)).1)].length + ([a] : List T_impl_Node).length) * 176 ≤ 140737488355328) = true := fun a => by rfl
  cases hbb : (messageOk (kind, mfrom, mto, mterm, mindex, mlt, mcom, mok, mes, mconf, mdata, mlast, ()) && mto == id) with
  | false =>
    rw [hbb] at q4 q5
    simp only [cond_false] at q4 q5
    simp only [q4, q5, Option.bind_some, laws_FnNodes.P0, beq_self_eq_true, Bool.not_true, cond_false, bne_self_eq_false, laws_FnNodes.P1]
    rw [law_list _ (by simp) hn (fun x hx => by
      obtain rfl := List.mem_singleton.1 hx
      exact ⟨_, gt⟩)]
    rfl
  | true =>
    rw [hbb] at q4 q5
    simp only [cond_true] at q4 q5
    have gr := recvM_good hn hm (Bool.and_eq_true_iff.1 hbb).1
    simp only [q4, q5, Option.bind_some, laws_FnNodes.P0, beq_self_eq_true, Bool.not_true, cond_false, bne_self_eq_false, laws_FnNodes.P1, cond_true, hlen2]
    rw [law_list _ (by simp) hn (fun x hx => by
      rcases List.mem_append.1 hx with hx | hx
      · obtain rfl := List.mem_singleton.1 hx
        exact ⟨_, gt⟩
      · obtain rfl := List.mem_singleton.1 hx
        exact ⟨_, gr⟩)]
    rfl

end Go.Proofs.YtnnnpppodblblaaGreat.Pu
