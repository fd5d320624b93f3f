/- The law of YearsToClear, walked. -/
import Derived.Test.YtfgielchljmecaaYr8
set_option maxRecDepth 100000
set_option maxHeartbeats 4000000
set_option linter.all false
namespace Go.Pe.Try
open Go.Proofs.Try
theorem ytc_form (stock : Int) (xs : List Row) : ∃ v b, ytc stock xs = [.int .i64 v, .bool b] := by
  unfold ytc
  split
  · split
    · split
      · exact ⟨_, _, rfl⟩
      · exact ⟨_, _, rfl⟩
    · exact ⟨_, _, rfl⟩
  · exact ⟨_, _, rfl⟩
theorem law5_fn (stock : Int) (xs : List Row) (hs : InR .i64 stock) (hm : xs.length ≤ maxLen) : Fn prog 5 [.int .i64 stock, .sl false 5 (rowsD xs)] (fun rs => rs = [.bool true]) := by
  refine Fn_of' (fn := f5) (by exact func5) c5 r5 (n := 44) (by rfl) (rv := [.tmp 4]) (by rfl) (by simp) ?_
  unfold m5
  try simp only [↓execM_skip, ↓execM_seq, ↓execM_reg, ↓execM_ret, ↓execM_exit, ↓execM_block, ↓execM_cond, ↓execC_true, ↓execC_false, ↓thenQ_n, ↓thenQ_r, ↓thenQ_e, ↓inB_n, ↓inB_r, ↓inB_e,
 ↓execR_nil, ↓execR_op, ↓execR_g, ↓execG_true, ↓execG_false, ↓execG_tf, ↓execG_ft, ↓execG_un, ↓stepO_t, ↓stepO_f, ↓stepP_mov, ↓stepP_pick, ↓onPick_true, ↓onPick_false, ↓stepP_bin, ↓stepP_bb, ↓stepP_ie, ↓stepP_un, ↓stepP_nck, ↓onNck,
 ↓stepP_ld, ↓stepP_fa, ↓stepP_ia, ↓stepP_ix, ↓stepP_len, ↓stepP_ext, ↓stepP_conv, ↓stepP_sls, ↓stepP_mx, ↓stepP_callP, ↓stepE_call, evL, argsS, partsS, ↓int_add, ↓int_sub, ↓int_mul, ↓int_quo, ↓int_rem, ↓int_and, ↓int_or, ↓int_xor, ↓int_eql, ↓int_neq, ↓int_lss, ↓int_leq, ↓int_gtr, ↓int_geq,
 ↓bin_int, ↓bin_str, ↓str_add, ↓str_eql, ↓str_neq, ↓str_lss, ↓bb_eql, ↓bb_neq, ↓ie_eql, ↓ie_neq, ↓un_not, ↓un_neg, ↓conv_eq, ↓mx_eq, ↓len_str, ↓len_sl, ↓len_nil, ↓len_own, ↓ix_eq, ↓ia_d, ↓ia_own, ↓rd_int, ↓rd_bool, ↓rd_str, ↓rd_err, ↓rd_sl, ↓rd_st, ↓ld_d, ↓ld_ptr, ↓ld_el, ↓fa_d, ↓fa_ptr, ↓fa_el, ↓ext_eq,
 ↓take_d, ↓take_own, ↓take_vw, ↓store_ptr, ↓store_el, ↓E_box, ↓E_alloc, ↓E_st, ↓E_app, ↓E_bs, ↓E_bld, ↓onBld_t, ↓onBld_f, ↓E_mk, ↓onMk_i, ↓parts_nil, ↓parts_cons, ↓appB_nil, ↓appB_own, ↓appS_d, ↓appS_nil, ↓appS_own, ↓onApp_t, ↓onApp_f, ↓ret_t, ↓ret_nil, ↓ret_c, ↓onCell_i, ↓ret_n, ↓ret_r, ↓onRet_i, ↓retM_n, ↓retM_r, ↓onRetM_i, ↓retO_t, ↓retO_nil, ↓retO_c, ↓onOb_f, ↓onOb_t, firstS, mkOb,
 ↓onO_some, ↓onC_true, ↓look, ↓putE, evF, evS, evOO, initE, keepE, boxOf, valOf, slOf, stOf, lenOf, killL, kill, killO, refA, ref0, refV, addRes, resS, resSV, ↓sz_nil, ↓sz_t, ↓sz_c, sz_ptr, Option.some.injEq, D.pre, D.nth, D.size, D.len, dget, doff, dset, D.setN, D.noOwn, isV_int, isV_bool, isV_str, isV_err, isV_sl, isV_st, isV_ptr, isV_clo, D.unown, D.app, ofL, List.replicate,
 List.getElem?_cons_zero, List.getElem?_cons_succ, List.getElem?_nil, List.set_cons_zero, List.set_cons_succ, List.length_cons, List.length_nil, List.length_append, List.cons_append, List.nil_append, List.append_nil, List.any_cons, List.any_nil, List.all_cons, List.all_nil, List.map_cons, List.map_nil,
 Nat.reduceEqDiff, Nat.reduceAdd, Nat.zero_add, Nat.add_zero, Nat.reduceSub, if_true, if_false, reduceIte, reduceCtorEq, Bool.false_eq_true, Bool.true_eq_false, Bool.not_true, Bool.not_false, Bool.and_true, Bool.true_and, Bool.and_false, Bool.false_and, Bool.or_false, Bool.false_or, Bool.or_true, Bool.true_or, true_and, and_true, beq_self_eq_true, SV.own.injEq, SV.ptr.injEq, ne_eq, not_false_eq_true, not_true_eq_false, eq_self, decide_true, decide_false, Nat.reduceBEq, beq_iff_eq, List.append_assoc, sz25]
  refine call_det (szYearRowS_fn xs 1048576 (by omega) (by omega) hm) rfl rfl ?_
  by_cases hlen : xs.length ≤ 1048576
  · have e1 : (if (1048576 : Int) - xs.length < 0 then (-1 : Int) else 1048576 - xs.length) = 1048576 - xs.length := if_neg (by omega)
    have e2 : decide ((1048576 : Int) - xs.length < 0) = false := decide_eq_false (by omega)
    obtain ⟨v, b, hy⟩ := ytc_form stock xs
    have hS := specYearsToClear_fn stock xs hs hlen
    have hI := yearsToClear_fn stock xs hlen
    rw [hy] at hS hI
    repeat' (first
        | (simp only [e1, e2, rows_noOwn, ↓execM_skip, ↓execM_seq, ↓execM_reg, ↓execM_ret, ↓execM_exit, ↓execM_block, ↓execM_cond, ↓execC_true, ↓execC_false, ↓thenQ_n, ↓thenQ_r, ↓thenQ_e, ↓inB_n, ↓inB_r, ↓inB_e,
 ↓execR_nil, ↓execR_op, ↓execR_g, ↓execG_true, ↓execG_false, ↓execG_tf, ↓execG_ft, ↓execG_un, ↓stepO_t, ↓stepO_f, ↓stepP_mov, ↓stepP_pick, ↓onPick_true, ↓onPick_false, ↓stepP_bin, ↓stepP_bb, ↓stepP_ie, ↓stepP_un, ↓stepP_nck, ↓onNck,
 ↓stepP_ld, ↓stepP_fa, ↓stepP_ia, ↓stepP_ix, ↓stepP_len, ↓stepP_ext, ↓stepP_conv, ↓stepP_sls, ↓stepP_mx, ↓stepP_callP, ↓stepE_call, evL, argsS, partsS, ↓int_add, ↓int_sub, ↓int_mul, ↓int_quo, ↓int_rem, ↓int_and, ↓int_or, ↓int_xor, ↓int_eql, ↓int_neq, ↓int_lss, ↓int_leq, ↓int_gtr, ↓int_geq,
 ↓bin_int, ↓bin_str, ↓str_add, ↓str_eql, ↓str_neq, ↓str_lss, ↓bb_eql, ↓bb_neq, ↓ie_eql, ↓ie_neq, ↓un_not, ↓un_neg, ↓conv_eq, ↓mx_eq, ↓len_str, ↓len_sl, ↓len_nil, ↓len_own, ↓ix_eq, ↓ia_d, ↓ia_own, ↓rd_int, ↓rd_bool, ↓rd_str, ↓rd_err, ↓rd_sl, ↓rd_st, ↓ld_d, ↓ld_ptr, ↓ld_el, ↓fa_d, ↓fa_ptr, ↓fa_el, ↓ext_eq,
 ↓take_d, ↓take_own, ↓take_vw, ↓store_ptr, ↓store_el, ↓E_box, ↓E_alloc, ↓E_st, ↓E_app, ↓E_bs, ↓E_bld, ↓onBld_t, ↓onBld_f, ↓E_mk, ↓onMk_i, ↓parts_nil, ↓parts_cons, ↓appB_nil, ↓appB_own, ↓appS_d, ↓appS_nil, ↓appS_own, ↓onApp_t, ↓onApp_f, ↓ret_t, ↓ret_nil, ↓ret_c, ↓onCell_i, ↓ret_n, ↓ret_r, ↓onRet_i, ↓retM_n, ↓retM_r, ↓onRetM_i, ↓retO_t, ↓retO_nil, ↓retO_c, ↓onOb_f, ↓onOb_t, firstS, mkOb,
 ↓onO_some, ↓onC_true, ↓look, ↓putE, evF, evS, evOO, initE, keepE, boxOf, valOf, slOf, stOf, lenOf, killL, kill, killO, refA, ref0, refV, addRes, resS, resSV, ↓sz_nil, ↓sz_t, ↓sz_c, sz_ptr, Option.some.injEq, D.pre, D.nth, D.size, D.len, dget, doff, dset, D.setN, D.noOwn, isV_int, isV_bool, isV_str, isV_err, isV_sl, isV_st, isV_ptr, isV_clo, D.unown, D.app, ofL, List.replicate,
 List.getElem?_cons_zero, List.getElem?_cons_succ, List.getElem?_nil, List.set_cons_zero, List.set_cons_succ, List.length_cons, List.length_nil, List.length_append, List.cons_append, List.nil_append, List.append_nil, List.any_cons, List.any_nil, List.all_cons, List.all_nil, List.map_cons, List.map_nil,
 Nat.reduceEqDiff, Nat.reduceAdd, Nat.zero_add, Nat.add_zero, Nat.reduceSub, if_true, if_false, reduceIte, reduceCtorEq, Bool.false_eq_true, Bool.true_eq_false, Bool.not_true, Bool.not_false, Bool.and_true, Bool.true_and, Bool.and_false, Bool.false_and, Bool.or_false, Bool.false_or, Bool.or_true, Bool.true_or, true_and, and_true, beq_self_eq_true, SV.own.injEq, SV.ptr.injEq, ne_eq, not_false_eq_true, not_true_eq_false, eq_self, decide_true, decide_false, Nat.reduceBEq, beq_iff_eq, List.append_assoc, sz25])
        | (refine call_det (toYearRowS_fn xs hlen) rfl rfl ?_)
        | (refine call_det hS (by simp [argsD, argD, valOf, D.unown, rows_unown]) rfl ?_)
        | (refine call_det hI (by simp [argsD, argD, valOf, D.unown, rows_unown]) rfl ?_)
        | (refine call_det (eqYearRowS_refl xs hlen) (by simp [argsD, argD, valOf, D.unown, rows_unown]) rfl ?_)
        | (refine execG_split (fun h => ?_) (fun h => ?_) <;> simp only [h])
        | (refine execC_split (fun h => ?_) (fun h => ?_) <;> (try simp only [h]))
        | (refine onPick_split (fun h => ?_) (fun h => ?_) <;> (try simp only [h])))
    all_goals simp_all
  · have e1 : (if (1048576 : Int) - xs.length < 0 then (-1 : Int) else 1048576 - xs.length) = -1 := if_pos (by omega)
    have e2 : decide ((-1 : Int) < 0) = true := by decide
    try simp only [e1, e2, ↓execM_skip, ↓execM_seq, ↓execM_reg, ↓execM_ret, ↓execM_exit, ↓execM_block, ↓execM_cond, ↓execC_true, ↓execC_false, ↓thenQ_n, ↓thenQ_r, ↓thenQ_e, ↓inB_n, ↓inB_r, ↓inB_e,
 ↓execR_nil, ↓execR_op, ↓execR_g, ↓execG_true, ↓execG_false, ↓execG_tf, ↓execG_ft, ↓execG_un, ↓stepO_t, ↓stepO_f, ↓stepP_mov, ↓stepP_pick, ↓onPick_true, ↓onPick_false, ↓stepP_bin, ↓stepP_bb, ↓stepP_ie, ↓stepP_un, ↓stepP_nck, ↓onNck,
 ↓stepP_ld, ↓stepP_fa, ↓stepP_ia, ↓stepP_ix, ↓stepP_len, ↓stepP_ext, ↓stepP_conv, ↓stepP_sls, ↓stepP_mx, ↓stepP_callP, ↓stepE_call, evL, argsS, partsS, ↓int_add, ↓int_sub, ↓int_mul, ↓int_quo, ↓int_rem, ↓int_and, ↓int_or, ↓int_xor, ↓int_eql, ↓int_neq, ↓int_lss, ↓int_leq, ↓int_gtr, ↓int_geq,
 ↓bin_int, ↓bin_str, ↓str_add, ↓str_eql, ↓str_neq, ↓str_lss, ↓bb_eql, ↓bb_neq, ↓ie_eql, ↓ie_neq, ↓un_not, ↓un_neg, ↓conv_eq, ↓mx_eq, ↓len_str, ↓len_sl, ↓len_nil, ↓len_own, ↓ix_eq, ↓ia_d, ↓ia_own, ↓rd_int, ↓rd_bool, ↓rd_str, ↓rd_err, ↓rd_sl, ↓rd_st, ↓ld_d, ↓ld_ptr, ↓ld_el, ↓fa_d, ↓fa_ptr, ↓fa_el, ↓ext_eq,
 ↓take_d, ↓take_own, ↓take_vw, ↓store_ptr, ↓store_el, ↓E_box, ↓E_alloc, ↓E_st, ↓E_app, ↓E_bs, ↓E_bld, ↓onBld_t, ↓onBld_f, ↓E_mk, ↓onMk_i, ↓parts_nil, ↓parts_cons, ↓appB_nil, ↓appB_own, ↓appS_d, ↓appS_nil, ↓appS_own, ↓onApp_t, ↓onApp_f, ↓ret_t, ↓ret_nil, ↓ret_c, ↓onCell_i, ↓ret_n, ↓ret_r, ↓onRet_i, ↓retM_n, ↓retM_r, ↓onRetM_i, ↓retO_t, ↓retO_nil, ↓retO_c, ↓onOb_f, ↓onOb_t, firstS, mkOb,
 ↓onO_some, ↓onC_true, ↓look, ↓putE, evF, evS, evOO, initE, keepE, boxOf, valOf, slOf, stOf, lenOf, killL, kill, killO, refA, ref0, refV, addRes, resS, resSV, ↓sz_nil, ↓sz_t, ↓sz_c, sz_ptr, Option.some.injEq, D.pre, D.nth, D.size, D.len, dget, doff, dset, D.setN, D.noOwn, isV_int, isV_bool, isV_str, isV_err, isV_sl, isV_st, isV_ptr, isV_clo, D.unown, D.app, ofL, List.replicate,
 List.getElem?_cons_zero, List.getElem?_cons_succ, List.getElem?_nil, List.set_cons_zero, List.set_cons_succ, List.length_cons, List.length_nil, List.length_append, List.cons_append, List.nil_append, List.append_nil, List.any_cons, List.any_nil, List.all_cons, List.all_nil, List.map_cons, List.map_nil,
 Nat.reduceEqDiff, Nat.reduceAdd, Nat.zero_add, Nat.add_zero, Nat.reduceSub, if_true, if_false, reduceIte, reduceCtorEq, Bool.false_eq_true, Bool.true_eq_false, Bool.not_true, Bool.not_false, Bool.and_true, Bool.true_and, Bool.and_false, Bool.false_and, Bool.or_false, Bool.false_or, Bool.or_true, Bool.true_or, true_and, and_true, beq_self_eq_true, SV.own.injEq, SV.ptr.injEq, ne_eq, not_false_eq_true, not_true_eq_false, eq_self, decide_true, decide_false, Nat.reduceBEq, beq_iff_eq, List.append_assoc, sz25]
theorem law5 (x0 x1 : D) (h0 : Typed (.int .i64) x0) (h1 : Typed (.sl 5 rowSh) x1) : Fn prog 5 [x0, x1] (fun rs => rs = [.bool true]) :=
  stockRows (P := fun a b => Fn prog 5 [a, b] (fun rs => rs = [.bool true])) law5_fn x0 x1 h0 h1
end Go.Pe.Try
