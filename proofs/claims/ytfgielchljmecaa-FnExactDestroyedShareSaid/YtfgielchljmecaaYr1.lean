/- The walks of the small functions of the yearly rows. -/
import Derived.Test.YtfgielchljmecaaPeC
import Derived.Test.YtfgielchljmecaaMc1
import Derived.Test.YtfgielchljmecaaMc2
import Derived.Test.YtfgielchljmecaaMc3
import Derived.Test.YtfgielchljmecaaMc4
set_option maxRecDepth 100000
set_option maxHeartbeats 4000000
set_option linter.all false
namespace Go.Pe.Try
open Go.Proofs.Try
def within (n a b : Int) : Bool := decide (a ≤ n) && decide (n ≤ b)
theorem within_fn (n a b : Int) : Fn prog 41 [.int .i64 n, .int .i64 a, .int .i64 b] (fun rs => rs = [.bool (within n a b)]) := by
  refine Fn_of' (fn := f41) (by exact func41) c41 r41 (n := 15) (by rfl) (rv := [.tmp 6]) (by rfl) (by simp) ?_
  unfold m41
  simp only [↓execM_skip, ↓execM_seq, ↓execM_reg, ↓execM_ret, ↓execM_exit, ↓execM_block, ↓execM_cond, ↓execC_true, ↓execC_false, ↓thenQ_n, ↓thenQ_r, ↓thenQ_e, ↓inB_n, ↓inB_r, ↓inB_e,
 ↓execR_nil, ↓execR_op, ↓execR_g, ↓execG_true, ↓execG_false, ↓execG_tf, ↓execG_ft, ↓execG_un, ↓stepO_t, ↓stepO_f, ↓stepP_mov, ↓stepP_pick, ↓onPick_true, ↓onPick_false, ↓stepP_bin, ↓stepP_bb, ↓stepP_ie, ↓stepP_un, ↓stepP_nck, ↓onNck,
 ↓stepP_ld, ↓stepP_fa, ↓stepP_ia, ↓stepP_ix, ↓stepP_len, ↓stepP_ext, ↓stepP_conv, ↓stepP_sls, ↓stepP_mx, ↓stepP_callP, ↓stepE_call, evL, argsS, partsS, ↓int_add, ↓int_sub, ↓int_mul, ↓int_quo, ↓int_rem, ↓int_and, ↓int_or, ↓int_xor, ↓int_eql, ↓int_neq, ↓int_lss, ↓int_leq, ↓int_gtr, ↓int_geq,
 ↓bin_int, ↓bin_str, ↓str_add, ↓str_eql, ↓str_neq, ↓str_lss, ↓bb_eql, ↓bb_neq, ↓ie_eql, ↓ie_neq, ↓un_not, ↓un_neg, ↓conv_eq, ↓mx_eq, ↓len_str, ↓len_sl, ↓len_nil, ↓len_own, ↓ix_eq, ↓ia_d, ↓ia_own, ↓rd_int, ↓rd_bool, ↓rd_str, ↓rd_err, ↓rd_sl, ↓rd_st, ↓ld_d, ↓ld_ptr, ↓ld_el, ↓fa_d, ↓fa_ptr, ↓fa_el, ↓ext_eq,
 ↓take_d, ↓take_own, ↓take_vw, ↓store_ptr, ↓store_el, ↓E_box, ↓E_alloc, ↓E_st, ↓E_app, ↓E_bs, ↓E_bld, ↓onBld_t, ↓onBld_f, ↓E_mk, ↓onMk_i, ↓parts_nil, ↓parts_cons, ↓appB_nil, ↓appB_own, ↓appS_d, ↓appS_nil, ↓appS_own, ↓onApp_t, ↓onApp_f, ↓ret_t, ↓ret_nil, ↓ret_c, ↓onCell_i, ↓ret_n, ↓ret_r, ↓onRet_i,
 ↓onO_some, ↓onC_true, ↓look, ↓putE, evF, evS, evOO, initE, keepE, boxOf, valOf, slOf, stOf, lenOf, killL, kill, killO, refA, ref0, refV, addRes, resS, resSV, ↓sz_nil, ↓sz_t, ↓sz_c, sz_ptr, Option.some.injEq, D.pre, D.nth, D.size, D.len, dget, doff, dset, D.setN, D.noOwn, isV_int, isV_bool, isV_str, isV_err, isV_sl, isV_st, isV_ptr, isV_clo, D.unown, D.app, ofL, List.replicate,
 List.getElem?_cons_zero, List.getElem?_cons_succ, List.getElem?_nil, List.set_cons_zero, List.set_cons_succ, List.length_cons, List.length_nil, List.length_append, List.cons_append, List.nil_append, List.append_nil, List.any_cons, List.any_nil, List.all_cons, List.all_nil, List.map_cons, List.map_nil,
 Nat.reduceEqDiff, Nat.reduceAdd, Nat.zero_add, Nat.add_zero, Nat.reduceSub, if_true, if_false, reduceIte, reduceCtorEq, Bool.false_eq_true, Bool.true_eq_false, Bool.not_true, Bool.not_false, Bool.and_true, Bool.true_and, Bool.and_false, Bool.false_and, Bool.or_false, Bool.false_or, Bool.or_true, Bool.true_or, true_and, and_true, beq_self_eq_true, SV.own.injEq, SV.ptr.injEq, ne_eq, not_false_eq_true, not_true_eq_false, eq_self, decide_true, decide_false, Nat.reduceBEq, beq_iff_eq, List.append_assoc, sz25]
  refine execG_split (fun h => ?_) (fun h => ?_) <;> simp only [h, ↓execM_skip, ↓execM_seq, ↓execM_reg, ↓execM_ret, ↓execM_exit, ↓execM_block, ↓execM_cond, ↓execC_true, ↓execC_false, ↓thenQ_n, ↓thenQ_r, ↓thenQ_e, ↓inB_n, ↓inB_r, ↓inB_e,
 ↓execR_nil, ↓execR_op, ↓execR_g, ↓execG_true, ↓execG_false, ↓execG_tf, ↓execG_ft, ↓execG_un, ↓stepO_t, ↓stepO_f, ↓stepP_mov, ↓stepP_pick, ↓onPick_true, ↓onPick_false, ↓stepP_bin, ↓stepP_bb, ↓stepP_ie, ↓stepP_un, ↓stepP_nck, ↓onNck,
 ↓stepP_ld, ↓stepP_fa, ↓stepP_ia, ↓stepP_ix, ↓stepP_len, ↓stepP_ext, ↓stepP_conv, ↓stepP_sls, ↓stepP_mx, ↓stepP_callP, ↓stepE_call, evL, argsS, partsS, ↓int_add, ↓int_sub, ↓int_mul, ↓int_quo, ↓int_rem, ↓int_and, ↓int_or, ↓int_xor, ↓int_eql, ↓int_neq, ↓int_lss, ↓int_leq, ↓int_gtr, ↓int_geq,
 ↓bin_int, ↓bin_str, ↓str_add, ↓str_eql, ↓str_neq, ↓str_lss, ↓bb_eql, ↓bb_neq, ↓ie_eql, ↓ie_neq, ↓un_not, ↓un_neg, ↓conv_eq, ↓mx_eq, ↓len_str, ↓len_sl, ↓len_nil, ↓len_own, ↓ix_eq, ↓ia_d, ↓ia_own, ↓rd_int, ↓rd_bool, ↓rd_str, ↓rd_err, ↓rd_sl, ↓rd_st, ↓ld_d, ↓ld_ptr, ↓ld_el, ↓fa_d, ↓fa_ptr, ↓fa_el, ↓ext_eq,
 ↓take_d, ↓take_own, ↓take_vw, ↓store_ptr, ↓store_el, ↓E_box, ↓E_alloc, ↓E_st, ↓E_app, ↓E_bs, ↓E_bld, ↓onBld_t, ↓onBld_f, ↓E_mk, ↓onMk_i, ↓parts_nil, ↓parts_cons, ↓appB_nil, ↓appB_own, ↓appS_d, ↓appS_nil, ↓appS_own, ↓onApp_t, ↓onApp_f, ↓ret_t, ↓ret_nil, ↓ret_c, ↓onCell_i, ↓ret_n, ↓ret_r, ↓onRet_i,
 ↓onO_some, ↓onC_true, ↓look, ↓putE, evF, evS, evOO, initE, keepE, boxOf, valOf, slOf, stOf, lenOf, killL, kill, killO, refA, ref0, refV, addRes, resS, resSV, ↓sz_nil, ↓sz_t, ↓sz_c, sz_ptr, Option.some.injEq, D.pre, D.nth, D.size, D.len, dget, doff, dset, D.setN, D.noOwn, isV_int, isV_bool, isV_str, isV_err, isV_sl, isV_st, isV_ptr, isV_clo, D.unown, D.app, ofL, List.replicate,
 List.getElem?_cons_zero, List.getElem?_cons_succ, List.getElem?_nil, List.set_cons_zero, List.set_cons_succ, List.length_cons, List.length_nil, List.length_append, List.cons_append, List.nil_append, List.append_nil, List.any_cons, List.any_nil, List.all_cons, List.all_nil, List.map_cons, List.map_nil,
 Nat.reduceEqDiff, Nat.reduceAdd, Nat.zero_add, Nat.add_zero, Nat.reduceSub, if_true, if_false, reduceIte, reduceCtorEq, Bool.false_eq_true, Bool.true_eq_false, Bool.not_true, Bool.not_false, Bool.and_true, Bool.true_and, Bool.and_false, Bool.false_and, Bool.or_false, Bool.false_or, Bool.or_true, Bool.true_or, true_and, and_true, beq_self_eq_true, SV.own.injEq, SV.ptr.injEq, ne_eq, not_false_eq_true, not_true_eq_false, eq_self, decide_true, decide_false, Nat.reduceBEq, beq_iff_eq, List.append_assoc, sz25]
  all_goals simp [within, h]
theorem l1In_fn (n a b : Int) : Fn prog 55 [.int .i64 n, .int .i64 a, .int .i64 b] (fun rs => rs = [.bool (within n a b)]) := by
  refine Fn_of' (fn := f55) (by exact func55) c55 r55 (n := 15) (by rfl) (rv := [.tmp 6]) (by rfl) (by simp) ?_
  unfold m55
  simp only [↓execM_skip, ↓execM_seq, ↓execM_reg, ↓execM_ret, ↓execM_exit, ↓execM_block, ↓execM_cond, ↓execC_true, ↓execC_false, ↓thenQ_n, ↓thenQ_r, ↓thenQ_e, ↓inB_n, ↓inB_r, ↓inB_e,
 ↓execR_nil, ↓execR_op, ↓execR_g, ↓execG_true, ↓execG_false, ↓execG_tf, ↓execG_ft, ↓execG_un, ↓stepO_t, ↓stepO_f, ↓stepP_mov, ↓stepP_pick, ↓onPick_true, ↓onPick_false, ↓stepP_bin, ↓stepP_bb, ↓stepP_ie, ↓stepP_un, ↓stepP_nck, ↓onNck,
 ↓stepP_ld, ↓stepP_fa, ↓stepP_ia, ↓stepP_ix, ↓stepP_len, ↓stepP_ext, ↓stepP_conv, ↓stepP_sls, ↓stepP_mx, ↓stepP_callP, ↓stepE_call, evL, argsS, partsS, ↓int_add, ↓int_sub, ↓int_mul, ↓int_quo, ↓int_rem, ↓int_and, ↓int_or, ↓int_xor, ↓int_eql, ↓int_neq, ↓int_lss, ↓int_leq, ↓int_gtr, ↓int_geq,
 ↓bin_int, ↓bin_str, ↓str_add, ↓str_eql, ↓str_neq, ↓str_lss, ↓bb_eql, ↓bb_neq, ↓ie_eql, ↓ie_neq, ↓un_not, ↓un_neg, ↓conv_eq, ↓mx_eq, ↓len_str, ↓len_sl, ↓len_nil, ↓len_own, ↓ix_eq, ↓ia_d, ↓ia_own, ↓rd_int, ↓rd_bool, ↓rd_str, ↓rd_err, ↓rd_sl, ↓rd_st, ↓ld_d, ↓ld_ptr, ↓ld_el, ↓fa_d, ↓fa_ptr, ↓fa_el, ↓ext_eq,
 ↓take_d, ↓take_own, ↓take_vw, ↓store_ptr, ↓store_el, ↓E_box, ↓E_alloc, ↓E_st, ↓E_app, ↓E_bs, ↓E_bld, ↓onBld_t, ↓onBld_f, ↓E_mk, ↓onMk_i, ↓parts_nil, ↓parts_cons, ↓appB_nil, ↓appB_own, ↓appS_d, ↓appS_nil, ↓appS_own, ↓onApp_t, ↓onApp_f, ↓ret_t, ↓ret_nil, ↓ret_c, ↓onCell_i, ↓ret_n, ↓ret_r, ↓onRet_i,
 ↓onO_some, ↓onC_true, ↓look, ↓putE, evF, evS, evOO, initE, keepE, boxOf, valOf, slOf, stOf, lenOf, killL, kill, killO, refA, ref0, refV, addRes, resS, resSV, ↓sz_nil, ↓sz_t, ↓sz_c, sz_ptr, Option.some.injEq, D.pre, D.nth, D.size, D.len, dget, doff, dset, D.setN, D.noOwn, isV_int, isV_bool, isV_str, isV_err, isV_sl, isV_st, isV_ptr, isV_clo, D.unown, D.app, ofL, List.replicate,
 List.getElem?_cons_zero, List.getElem?_cons_succ, List.getElem?_nil, List.set_cons_zero, List.set_cons_succ, List.length_cons, List.length_nil, List.length_append, List.cons_append, List.nil_append, List.append_nil, List.any_cons, List.any_nil, List.all_cons, List.all_nil, List.map_cons, List.map_nil,
 Nat.reduceEqDiff, Nat.reduceAdd, Nat.zero_add, Nat.add_zero, Nat.reduceSub, if_true, if_false, reduceIte, reduceCtorEq, Bool.false_eq_true, Bool.true_eq_false, Bool.not_true, Bool.not_false, Bool.and_true, Bool.true_and, Bool.and_false, Bool.false_and, Bool.or_false, Bool.false_or, Bool.or_true, Bool.true_or, true_and, and_true, beq_self_eq_true, SV.own.injEq, SV.ptr.injEq, ne_eq, not_false_eq_true, not_true_eq_false, eq_self, decide_true, decide_false, Nat.reduceBEq, beq_iff_eq, List.append_assoc, sz25]
  refine execG_split (fun h => ?_) (fun h => ?_) <;> simp only [h, ↓execM_skip, ↓execM_seq, ↓execM_reg, ↓execM_ret, ↓execM_exit, ↓execM_block, ↓execM_cond, ↓execC_true, ↓execC_false, ↓thenQ_n, ↓thenQ_r, ↓thenQ_e, ↓inB_n, ↓inB_r, ↓inB_e,
 ↓execR_nil, ↓execR_op, ↓execR_g, ↓execG_true, ↓execG_false, ↓execG_tf, ↓execG_ft, ↓execG_un, ↓stepO_t, ↓stepO_f, ↓stepP_mov, ↓stepP_pick, ↓onPick_true, ↓onPick_false, ↓stepP_bin, ↓stepP_bb, ↓stepP_ie, ↓stepP_un, ↓stepP_nck, ↓onNck,
 ↓stepP_ld, ↓stepP_fa, ↓stepP_ia, ↓stepP_ix, ↓stepP_len, ↓stepP_ext, ↓stepP_conv, ↓stepP_sls, ↓stepP_mx, ↓stepP_callP, ↓stepE_call, evL, argsS, partsS, ↓int_add, ↓int_sub, ↓int_mul, ↓int_quo, ↓int_rem, ↓int_and, ↓int_or, ↓int_xor, ↓int_eql, ↓int_neq, ↓int_lss, ↓int_leq, ↓int_gtr, ↓int_geq,
 ↓bin_int, ↓bin_str, ↓str_add, ↓str_eql, ↓str_neq, ↓str_lss, ↓bb_eql, ↓bb_neq, ↓ie_eql, ↓ie_neq, ↓un_not, ↓un_neg, ↓conv_eq, ↓mx_eq, ↓len_str, ↓len_sl, ↓len_nil, ↓len_own, ↓ix_eq, ↓ia_d, ↓ia_own, ↓rd_int, ↓rd_bool, ↓rd_str, ↓rd_err, ↓rd_sl, ↓rd_st, ↓ld_d, ↓ld_ptr, ↓ld_el, ↓fa_d, ↓fa_ptr, ↓fa_el, ↓ext_eq,
 ↓take_d, ↓take_own, ↓take_vw, ↓store_ptr, ↓store_el, ↓E_box, ↓E_alloc, ↓E_st, ↓E_app, ↓E_bs, ↓E_bld, ↓onBld_t, ↓onBld_f, ↓E_mk, ↓onMk_i, ↓parts_nil, ↓parts_cons, ↓appB_nil, ↓appB_own, ↓appS_d, ↓appS_nil, ↓appS_own, ↓onApp_t, ↓onApp_f, ↓ret_t, ↓ret_nil, ↓ret_c, ↓onCell_i, ↓ret_n, ↓ret_r, ↓onRet_i,
 ↓onO_some, ↓onC_true, ↓look, ↓putE, evF, evS, evOO, initE, keepE, boxOf, valOf, slOf, stOf, lenOf, killL, kill, killO, refA, ref0, refV, addRes, resS, resSV, ↓sz_nil, ↓sz_t, ↓sz_c, sz_ptr, Option.some.injEq, D.pre, D.nth, D.size, D.len, dget, doff, dset, D.setN, D.noOwn, isV_int, isV_bool, isV_str, isV_err, isV_sl, isV_st, isV_ptr, isV_clo, D.unown, D.app, ofL, List.replicate,
 List.getElem?_cons_zero, List.getElem?_cons_succ, List.getElem?_nil, List.set_cons_zero, List.set_cons_succ, List.length_cons, List.length_nil, List.length_append, List.cons_append, List.nil_append, List.append_nil, List.any_cons, List.any_nil, List.all_cons, List.all_nil, List.map_cons, List.map_nil,
 Nat.reduceEqDiff, Nat.reduceAdd, Nat.zero_add, Nat.add_zero, Nat.reduceSub, if_true, if_false, reduceIte, reduceCtorEq, Bool.false_eq_true, Bool.true_eq_false, Bool.not_true, Bool.not_false, Bool.and_true, Bool.true_and, Bool.and_false, Bool.false_and, Bool.or_false, Bool.false_or, Bool.or_true, Bool.true_or, true_and, and_true, beq_self_eq_true, SV.own.injEq, SV.ptr.injEq, ne_eq, not_false_eq_true, not_true_eq_false, eq_self, decide_true, decide_false, Nat.reduceBEq, beq_iff_eq, List.append_assoc, sz25]
  all_goals simp [within, h]
def isCount (n : Int) : Bool := within n 0 9999
theorem isCount_fn (n : Int) : Fn prog 42 [.int .i64 n] (fun rs => rs = [.bool (isCount n)]) := by
  refine Fn_of' (fn := f42) (by exact func42) c42 r42 (n := 5) (by rfl) (rv := [.tmp 2]) (by rfl) (by simp) ?_
  unfold m42
  simp only [↓execM_skip, ↓execM_seq, ↓execM_reg, ↓execM_ret, ↓execM_exit, ↓execM_block, ↓execM_cond, ↓execC_true, ↓execC_false, ↓thenQ_n, ↓thenQ_r, ↓thenQ_e, ↓inB_n, ↓inB_r, ↓inB_e,
 ↓execR_nil, ↓execR_op, ↓execR_g, ↓execG_true, ↓execG_false, ↓execG_tf, ↓execG_ft, ↓execG_un, ↓stepO_t, ↓stepO_f, ↓stepP_mov, ↓stepP_pick, ↓onPick_true, ↓onPick_false, ↓stepP_bin, ↓stepP_bb, ↓stepP_ie, ↓stepP_un, ↓stepP_nck, ↓onNck,
 ↓stepP_ld, ↓stepP_fa, ↓stepP_ia, ↓stepP_ix, ↓stepP_len, ↓stepP_ext, ↓stepP_conv, ↓stepP_sls, ↓stepP_mx, ↓stepP_callP, ↓stepE_call, evL, argsS, partsS, ↓int_add, ↓int_sub, ↓int_mul, ↓int_quo, ↓int_rem, ↓int_and, ↓int_or, ↓int_xor, ↓int_eql, ↓int_neq, ↓int_lss, ↓int_leq, ↓int_gtr, ↓int_geq,
 ↓bin_int, ↓bin_str, ↓str_add, ↓str_eql, ↓str_neq, ↓str_lss, ↓bb_eql, ↓bb_neq, ↓ie_eql, ↓ie_neq, ↓un_not, ↓un_neg, ↓conv_eq, ↓mx_eq, ↓len_str, ↓len_sl, ↓len_nil, ↓len_own, ↓ix_eq, ↓ia_d, ↓ia_own, ↓rd_int, ↓rd_bool, ↓rd_str, ↓rd_err, ↓rd_sl, ↓rd_st, ↓ld_d, ↓ld_ptr, ↓ld_el, ↓fa_d, ↓fa_ptr, ↓fa_el, ↓ext_eq,
 ↓take_d, ↓take_own, ↓take_vw, ↓store_ptr, ↓store_el, ↓E_box, ↓E_alloc, ↓E_st, ↓E_app, ↓E_bs, ↓E_bld, ↓onBld_t, ↓onBld_f, ↓E_mk, ↓onMk_i, ↓parts_nil, ↓parts_cons, ↓appB_nil, ↓appB_own, ↓appS_d, ↓appS_nil, ↓appS_own, ↓onApp_t, ↓onApp_f, ↓ret_t, ↓ret_nil, ↓ret_c, ↓onCell_i, ↓ret_n, ↓ret_r, ↓onRet_i,
 ↓onO_some, ↓onC_true, ↓look, ↓putE, evF, evS, evOO, initE, keepE, boxOf, valOf, slOf, stOf, lenOf, killL, kill, killO, refA, ref0, refV, addRes, resS, resSV, ↓sz_nil, ↓sz_t, ↓sz_c, sz_ptr, Option.some.injEq, D.pre, D.nth, D.size, D.len, dget, doff, dset, D.setN, D.noOwn, isV_int, isV_bool, isV_str, isV_err, isV_sl, isV_st, isV_ptr, isV_clo, D.unown, D.app, ofL, List.replicate,
 List.getElem?_cons_zero, List.getElem?_cons_succ, List.getElem?_nil, List.set_cons_zero, List.set_cons_succ, List.length_cons, List.length_nil, List.length_append, List.cons_append, List.nil_append, List.append_nil, List.any_cons, List.any_nil, List.all_cons, List.all_nil, List.map_cons, List.map_nil,
 Nat.reduceEqDiff, Nat.reduceAdd, Nat.zero_add, Nat.add_zero, Nat.reduceSub, if_true, if_false, reduceIte, reduceCtorEq, Bool.false_eq_true, Bool.true_eq_false, Bool.not_true, Bool.not_false, Bool.and_true, Bool.true_and, Bool.and_false, Bool.false_and, Bool.or_false, Bool.false_or, Bool.or_true, Bool.true_or, true_and, and_true, beq_self_eq_true, SV.own.injEq, SV.ptr.injEq, ne_eq, not_false_eq_true, not_true_eq_false, eq_self, decide_true, decide_false, Nat.reduceBEq, beq_iff_eq, List.append_assoc, sz25]
  refine call_det (within_fn _ _ _) rfl rfl ?_
  simp only [isCount, ↓execM_skip, ↓execM_seq, ↓execM_reg, ↓execM_ret, ↓execM_exit, ↓execM_block, ↓execM_cond, ↓execC_true, ↓execC_false, ↓thenQ_n, ↓thenQ_r, ↓thenQ_e, ↓inB_n, ↓inB_r, ↓inB_e,
 ↓execR_nil, ↓execR_op, ↓execR_g, ↓execG_true, ↓execG_false, ↓execG_tf, ↓execG_ft, ↓execG_un, ↓stepO_t, ↓stepO_f, ↓stepP_mov, ↓stepP_pick, ↓onPick_true, ↓onPick_false, ↓stepP_bin, ↓stepP_bb, ↓stepP_ie, ↓stepP_un, ↓stepP_nck, ↓onNck,
 ↓stepP_ld, ↓stepP_fa, ↓stepP_ia, ↓stepP_ix, ↓stepP_len, ↓stepP_ext, ↓stepP_conv, ↓stepP_sls, ↓stepP_mx, ↓stepP_callP, ↓stepE_call, evL, argsS, partsS, ↓int_add, ↓int_sub, ↓int_mul, ↓int_quo, ↓int_rem, ↓int_and, ↓int_or, ↓int_xor, ↓int_eql, ↓int_neq, ↓int_lss, ↓int_leq, ↓int_gtr, ↓int_geq,
 ↓bin_int, ↓bin_str, ↓str_add, ↓str_eql, ↓str_neq, ↓str_lss, ↓bb_eql, ↓bb_neq, ↓ie_eql, ↓ie_neq, ↓un_not, ↓un_neg, ↓conv_eq, ↓mx_eq, ↓len_str, ↓len_sl, ↓len_nil, ↓len_own, ↓ix_eq, ↓ia_d, ↓ia_own, ↓rd_int, ↓rd_bool, ↓rd_str, ↓rd_err, ↓rd_sl, ↓rd_st, ↓ld_d, ↓ld_ptr, ↓ld_el, ↓fa_d, ↓fa_ptr, ↓fa_el, ↓ext_eq,
 ↓take_d, ↓take_own, ↓take_vw, ↓store_ptr, ↓store_el, ↓E_box, ↓E_alloc, ↓E_st, ↓E_app, ↓E_bs, ↓E_bld, ↓onBld_t, ↓onBld_f, ↓E_mk, ↓onMk_i, ↓parts_nil, ↓parts_cons, ↓appB_nil, ↓appB_own, ↓appS_d, ↓appS_nil, ↓appS_own, ↓onApp_t, ↓onApp_f, ↓ret_t, ↓ret_nil, ↓ret_c, ↓onCell_i, ↓ret_n, ↓ret_r, ↓onRet_i,
 ↓onO_some, ↓onC_true, ↓look, ↓putE, evF, evS, evOO, initE, keepE, boxOf, valOf, slOf, stOf, lenOf, killL, kill, killO, refA, ref0, refV, addRes, resS, resSV, ↓sz_nil, ↓sz_t, ↓sz_c, sz_ptr, Option.some.injEq, D.pre, D.nth, D.size, D.len, dget, doff, dset, D.setN, D.noOwn, isV_int, isV_bool, isV_str, isV_err, isV_sl, isV_st, isV_ptr, isV_clo, D.unown, D.app, ofL, List.replicate,
 List.getElem?_cons_zero, List.getElem?_cons_succ, List.getElem?_nil, List.set_cons_zero, List.set_cons_succ, List.length_cons, List.length_nil, List.length_append, List.cons_append, List.nil_append, List.append_nil, List.any_cons, List.any_nil, List.all_cons, List.all_nil, List.map_cons, List.map_nil,
 Nat.reduceEqDiff, Nat.reduceAdd, Nat.zero_add, Nat.add_zero, Nat.reduceSub, if_true, if_false, reduceIte, reduceCtorEq, Bool.false_eq_true, Bool.true_eq_false, Bool.not_true, Bool.not_false, Bool.and_true, Bool.true_and, Bool.and_false, Bool.false_and, Bool.or_false, Bool.false_or, Bool.or_true, Bool.true_or, true_and, and_true, beq_self_eq_true, SV.own.injEq, SV.ptr.injEq, ne_eq, not_false_eq_true, not_true_eq_false, eq_self, decide_true, decide_false, Nat.reduceBEq, beq_iff_eq, List.append_assoc, sz25]
theorem l26Count_fn (n : Int) : Fn prog 56 [.int .i64 n] (fun rs => rs = [.bool (isCount n)]) := by
  refine Fn_of' (fn := f56) (by exact func56) c56 r56 (n := 5) (by rfl) (rv := [.tmp 2]) (by rfl) (by simp) ?_
  unfold m56
  simp only [↓execM_skip, ↓execM_seq, ↓execM_reg, ↓execM_ret, ↓execM_exit, ↓execM_block, ↓execM_cond, ↓execC_true, ↓execC_false, ↓thenQ_n, ↓thenQ_r, ↓thenQ_e, ↓inB_n, ↓inB_r, ↓inB_e,
 ↓execR_nil, ↓execR_op, ↓execR_g, ↓execG_true, ↓execG_false, ↓execG_tf, ↓execG_ft, ↓execG_un, ↓stepO_t, ↓stepO_f, ↓stepP_mov, ↓stepP_pick, ↓onPick_true, ↓onPick_false, ↓stepP_bin, ↓stepP_bb, ↓stepP_ie, ↓stepP_un, ↓stepP_nck, ↓onNck,
 ↓stepP_ld, ↓stepP_fa, ↓stepP_ia, ↓stepP_ix, ↓stepP_len, ↓stepP_ext, ↓stepP_conv, ↓stepP_sls, ↓stepP_mx, ↓stepP_callP, ↓stepE_call, evL, argsS, partsS, ↓int_add, ↓int_sub, ↓int_mul, ↓int_quo, ↓int_rem, ↓int_and, ↓int_or, ↓int_xor, ↓int_eql, ↓int_neq, ↓int_lss, ↓int_leq, ↓int_gtr, ↓int_geq,
 ↓bin_int, ↓bin_str, ↓str_add, ↓str_eql, ↓str_neq, ↓str_lss, ↓bb_eql, ↓bb_neq, ↓ie_eql, ↓ie_neq, ↓un_not, ↓un_neg, ↓conv_eq, ↓mx_eq, ↓len_str, ↓len_sl, ↓len_nil, ↓len_own, ↓ix_eq, ↓ia_d, ↓ia_own, ↓rd_int, ↓rd_bool, ↓rd_str, ↓rd_err, ↓rd_sl, ↓rd_st, ↓ld_d, ↓ld_ptr, ↓ld_el, ↓fa_d, ↓fa_ptr, ↓fa_el, ↓ext_eq,
 ↓take_d, ↓take_own, ↓take_vw, ↓store_ptr, ↓store_el, ↓E_box, ↓E_alloc, ↓E_st, ↓E_app, ↓E_bs, ↓E_bld, ↓onBld_t, ↓onBld_f, ↓E_mk, ↓onMk_i, ↓parts_nil, ↓parts_cons, ↓appB_nil, ↓appB_own, ↓appS_d, ↓appS_nil, ↓appS_own, ↓onApp_t, ↓onApp_f, ↓ret_t, ↓ret_nil, ↓ret_c, ↓onCell_i, ↓ret_n, ↓ret_r, ↓onRet_i,
 ↓onO_some, ↓onC_true, ↓look, ↓putE, evF, evS, evOO, initE, keepE, boxOf, valOf, slOf, stOf, lenOf, killL, kill, killO, refA, ref0, refV, addRes, resS, resSV, ↓sz_nil, ↓sz_t, ↓sz_c, sz_ptr, Option.some.injEq, D.pre, D.nth, D.size, D.len, dget, doff, dset, D.setN, D.noOwn, isV_int, isV_bool, isV_str, isV_err, isV_sl, isV_st, isV_ptr, isV_clo, D.unown, D.app, ofL, List.replicate,
 List.getElem?_cons_zero, List.getElem?_cons_succ, List.getElem?_nil, List.set_cons_zero, List.set_cons_succ, List.length_cons, List.length_nil, List.length_append, List.cons_append, List.nil_append, List.append_nil, List.any_cons, List.any_nil, List.all_cons, List.all_nil, List.map_cons, List.map_nil,
 Nat.reduceEqDiff, Nat.reduceAdd, Nat.zero_add, Nat.add_zero, Nat.reduceSub, if_true, if_false, reduceIte, reduceCtorEq, Bool.false_eq_true, Bool.true_eq_false, Bool.not_true, Bool.not_false, Bool.and_true, Bool.true_and, Bool.and_false, Bool.false_and, Bool.or_false, Bool.false_or, Bool.or_true, Bool.true_or, true_and, and_true, beq_self_eq_true, SV.own.injEq, SV.ptr.injEq, ne_eq, not_false_eq_true, not_true_eq_false, eq_self, decide_true, decide_false, Nat.reduceBEq, beq_iff_eq, List.append_assoc, sz25]
  refine call_det (l1In_fn _ _ _) rfl rfl ?_
  simp only [isCount, ↓execM_skip, ↓execM_seq, ↓execM_reg, ↓execM_ret, ↓execM_exit, ↓execM_block, ↓execM_cond, ↓execC_true, ↓execC_false, ↓thenQ_n, ↓thenQ_r, ↓thenQ_e, ↓inB_n, ↓inB_r, ↓inB_e,
 ↓execR_nil, ↓execR_op, ↓execR_g, ↓execG_true, ↓execG_false, ↓execG_tf, ↓execG_ft, ↓execG_un, ↓stepO_t, ↓stepO_f, ↓stepP_mov, ↓stepP_pick, ↓onPick_true, ↓onPick_false, ↓stepP_bin, ↓stepP_bb, ↓stepP_ie, ↓stepP_un, ↓stepP_nck, ↓onNck,
 ↓stepP_ld, ↓stepP_fa, ↓stepP_ia, ↓stepP_ix, ↓stepP_len, ↓stepP_ext, ↓stepP_conv, ↓stepP_sls, ↓stepP_mx, ↓stepP_callP, ↓stepE_call, evL, argsS, partsS, ↓int_add, ↓int_sub, ↓int_mul, ↓int_quo, ↓int_rem, ↓int_and, ↓int_or, ↓int_xor, ↓int_eql, ↓int_neq, ↓int_lss, ↓int_leq, ↓int_gtr, ↓int_geq,
 ↓bin_int, ↓bin_str, ↓str_add, ↓str_eql, ↓str_neq, ↓str_lss, ↓bb_eql, ↓bb_neq, ↓ie_eql, ↓ie_neq, ↓un_not, ↓un_neg, ↓conv_eq, ↓mx_eq, ↓len_str, ↓len_sl, ↓len_nil, ↓len_own, ↓ix_eq, ↓ia_d, ↓ia_own, ↓rd_int, ↓rd_bool, ↓rd_str, ↓rd_err, ↓rd_sl, ↓rd_st, ↓ld_d, ↓ld_ptr, ↓ld_el, ↓fa_d, ↓fa_ptr, ↓fa_el, ↓ext_eq,
 ↓take_d, ↓take_own, ↓take_vw, ↓store_ptr, ↓store_el, ↓E_box, ↓E_alloc, ↓E_st, ↓E_app, ↓E_bs, ↓E_bld, ↓onBld_t, ↓onBld_f, ↓E_mk, ↓onMk_i, ↓parts_nil, ↓parts_cons, ↓appB_nil, ↓appB_own, ↓appS_d, ↓appS_nil, ↓appS_own, ↓onApp_t, ↓onApp_f, ↓ret_t, ↓ret_nil, ↓ret_c, ↓onCell_i, ↓ret_n, ↓ret_r, ↓onRet_i,
 ↓onO_some, ↓onC_true, ↓look, ↓putE, evF, evS, evOO, initE, keepE, boxOf, valOf, slOf, stOf, lenOf, killL, kill, killO, refA, ref0, refV, addRes, resS, resSV, ↓sz_nil, ↓sz_t, ↓sz_c, sz_ptr, Option.some.injEq, D.pre, D.nth, D.size, D.len, dget, doff, dset, D.setN, D.noOwn, isV_int, isV_bool, isV_str, isV_err, isV_sl, isV_st, isV_ptr, isV_clo, D.unown, D.app, ofL, List.replicate,
 List.getElem?_cons_zero, List.getElem?_cons_succ, List.getElem?_nil, List.set_cons_zero, List.set_cons_succ, List.length_cons, List.length_nil, List.length_append, List.cons_append, List.nil_append, List.append_nil, List.any_cons, List.any_nil, List.all_cons, List.all_nil, List.map_cons, List.map_nil,
 Nat.reduceEqDiff, Nat.reduceAdd, Nat.zero_add, Nat.add_zero, Nat.reduceSub, if_true, if_false, reduceIte, reduceCtorEq, Bool.false_eq_true, Bool.true_eq_false, Bool.not_true, Bool.not_false, Bool.and_true, Bool.true_and, Bool.and_false, Bool.false_and, Bool.or_false, Bool.false_or, Bool.or_true, Bool.true_or, true_and, and_true, beq_self_eq_true, SV.own.injEq, SV.ptr.injEq, ne_eq, not_false_eq_true, not_true_eq_false, eq_self, decide_true, decide_false, Nat.reduceBEq, beq_iff_eq, List.append_assoc, sz25]
structure Row where
  y : Int
  m : Int
  k : Int
  x : Int
  g : Int
def Row.d (r : Row) : D := .st (.cons (.int .i64 r.y) (.cons (.int .i64 r.m) (.cons (.int .i64 r.k) (.cons (.int .i64 r.x) (.cons (.int .i64 r.g) .nil)))))
def Row.ok (r : Row) : Bool := within r.y 1900 2200 && (isCount r.m && (isCount r.k && (isCount r.x && isCount r.g)))
theorem isYearRow_fn (r : Row) : Fn prog 13 [r.d] (fun rs => rs = [.bool r.ok]) := by
  refine Fn_of' (fn := f13) (by exact func13) c13 r13 (n := 26) (by rfl) (rv := [.tmp 2]) (by rfl) (by simp) ?_
  unfold m13
  simp only [Row.d]
  repeat' (first
      | (simp only [↓execM_skip, ↓execM_seq, ↓execM_reg, ↓execM_ret, ↓execM_exit, ↓execM_block, ↓execM_cond, ↓execC_true, ↓execC_false, ↓thenQ_n, ↓thenQ_r, ↓thenQ_e, ↓inB_n, ↓inB_r, ↓inB_e,
 ↓execR_nil, ↓execR_op, ↓execR_g, ↓execG_true, ↓execG_false, ↓execG_tf, ↓execG_ft, ↓execG_un, ↓stepO_t, ↓stepO_f, ↓stepP_mov, ↓stepP_pick, ↓onPick_true, ↓onPick_false, ↓stepP_bin, ↓stepP_bb, ↓stepP_ie, ↓stepP_un, ↓stepP_nck, ↓onNck,
 ↓stepP_ld, ↓stepP_fa, ↓stepP_ia, ↓stepP_ix, ↓stepP_len, ↓stepP_ext, ↓stepP_conv, ↓stepP_sls, ↓stepP_mx, ↓stepP_callP, ↓stepE_call, evL, argsS, partsS, ↓int_add, ↓int_sub, ↓int_mul, ↓int_quo, ↓int_rem, ↓int_and, ↓int_or, ↓int_xor, ↓int_eql, ↓int_neq, ↓int_lss, ↓int_leq, ↓int_gtr, ↓int_geq,
 ↓bin_int, ↓bin_str, ↓str_add, ↓str_eql, ↓str_neq, ↓str_lss, ↓bb_eql, ↓bb_neq, ↓ie_eql, ↓ie_neq, ↓un_not, ↓un_neg, ↓conv_eq, ↓mx_eq, ↓len_str, ↓len_sl, ↓len_nil, ↓len_own, ↓ix_eq, ↓ia_d, ↓ia_own, ↓rd_int, ↓rd_bool, ↓rd_str, ↓rd_err, ↓rd_sl, ↓rd_st, ↓ld_d, ↓ld_ptr, ↓ld_el, ↓fa_d, ↓fa_ptr, ↓fa_el, ↓ext_eq,
 ↓take_d, ↓take_own, ↓take_vw, ↓store_ptr, ↓store_el, ↓E_box, ↓E_alloc, ↓E_st, ↓E_app, ↓E_bs, ↓E_bld, ↓onBld_t, ↓onBld_f, ↓E_mk, ↓onMk_i, ↓parts_nil, ↓parts_cons, ↓appB_nil, ↓appB_own, ↓appS_d, ↓appS_nil, ↓appS_own, ↓onApp_t, ↓onApp_f, ↓ret_t, ↓ret_nil, ↓ret_c, ↓onCell_i, ↓ret_n, ↓ret_r, ↓onRet_i,
 ↓onO_some, ↓onC_true, ↓look, ↓putE, evF, evS, evOO, initE, keepE, boxOf, valOf, slOf, stOf, lenOf, killL, kill, killO, refA, ref0, refV, addRes, resS, resSV, ↓sz_nil, ↓sz_t, ↓sz_c, sz_ptr, Option.some.injEq, D.pre, D.nth, D.size, D.len, dget, doff, dset, D.setN, D.noOwn, isV_int, isV_bool, isV_str, isV_err, isV_sl, isV_st, isV_ptr, isV_clo, D.unown, D.app, ofL, List.replicate,
 List.getElem?_cons_zero, List.getElem?_cons_succ, List.getElem?_nil, List.set_cons_zero, List.set_cons_succ, List.length_cons, List.length_nil, List.length_append, List.cons_append, List.nil_append, List.append_nil, List.any_cons, List.any_nil, List.all_cons, List.all_nil, List.map_cons, List.map_nil,
 Nat.reduceEqDiff, Nat.reduceAdd, Nat.zero_add, Nat.add_zero, Nat.reduceSub, if_true, if_false, reduceIte, reduceCtorEq, Bool.false_eq_true, Bool.true_eq_false, Bool.not_true, Bool.not_false, Bool.and_true, Bool.true_and, Bool.and_false, Bool.false_and, Bool.or_false, Bool.false_or, Bool.or_true, Bool.true_or, true_and, and_true, beq_self_eq_true, SV.own.injEq, SV.ptr.injEq, ne_eq, not_false_eq_true, not_true_eq_false, eq_self, decide_true, decide_false, Nat.reduceBEq, beq_iff_eq, List.append_assoc, sz25])
      | (refine call_det (within_fn _ _ _) rfl rfl ?_)
      | (refine callP_det (within_fn _ _ _) rfl rfl ?_)
      | (refine call_det (isCount_fn _) rfl rfl ?_)
      | (refine callP_det (isCount_fn _) rfl rfl ?_)
      | (refine execG_split (fun h => ?_) (fun h => ?_) <;> simp only [h])
      | (refine execC_split (fun h => ?_) (fun h => ?_) <;> (try simp only [h]))
      | (refine onPick_split (fun h => ?_) (fun h => ?_) <;> (try simp only [h])))
  all_goals simp [Row.ok, *]
theorem l26One_fn (r : Row) : Fn prog 40 [r.d] (fun rs => rs = [.bool r.ok]) := by
  refine Fn_of' (fn := f40) (by exact func40) c40 r40 (n := 26) (by rfl) (rv := [.tmp 2]) (by rfl) (by simp) ?_
  unfold m40
  simp only [Row.d]
  repeat' (first
      | (simp only [↓execM_skip, ↓execM_seq, ↓execM_reg, ↓execM_ret, ↓execM_exit, ↓execM_block, ↓execM_cond, ↓execC_true, ↓execC_false, ↓thenQ_n, ↓thenQ_r, ↓thenQ_e, ↓inB_n, ↓inB_r, ↓inB_e,
 ↓execR_nil, ↓execR_op, ↓execR_g, ↓execG_true, ↓execG_false, ↓execG_tf, ↓execG_ft, ↓execG_un, ↓stepO_t, ↓stepO_f, ↓stepP_mov, ↓stepP_pick, ↓onPick_true, ↓onPick_false, ↓stepP_bin, ↓stepP_bb, ↓stepP_ie, ↓stepP_un, ↓stepP_nck, ↓onNck,
 ↓stepP_ld, ↓stepP_fa, ↓stepP_ia, ↓stepP_ix, ↓stepP_len, ↓stepP_ext, ↓stepP_conv, ↓stepP_sls, ↓stepP_mx, ↓stepP_callP, ↓stepE_call, evL, argsS, partsS, ↓int_add, ↓int_sub, ↓int_mul, ↓int_quo, ↓int_rem, ↓int_and, ↓int_or, ↓int_xor, ↓int_eql, ↓int_neq, ↓int_lss, ↓int_leq, ↓int_gtr, ↓int_geq,
 ↓bin_int, ↓bin_str, ↓str_add, ↓str_eql, ↓str_neq, ↓str_lss, ↓bb_eql, ↓bb_neq, ↓ie_eql, ↓ie_neq, ↓un_not, ↓un_neg, ↓conv_eq, ↓mx_eq, ↓len_str, ↓len_sl, ↓len_nil, ↓len_own, ↓ix_eq, ↓ia_d, ↓ia_own, ↓rd_int, ↓rd_bool, ↓rd_str, ↓rd_err, ↓rd_sl, ↓rd_st, ↓ld_d, ↓ld_ptr, ↓ld_el, ↓fa_d, ↓fa_ptr, ↓fa_el, ↓ext_eq,
 ↓take_d, ↓take_own, ↓take_vw, ↓store_ptr, ↓store_el, ↓E_box, ↓E_alloc, ↓E_st, ↓E_app, ↓E_bs, ↓E_bld, ↓onBld_t, ↓onBld_f, ↓E_mk, ↓onMk_i, ↓parts_nil, ↓parts_cons, ↓appB_nil, ↓appB_own, ↓appS_d, ↓appS_nil, ↓appS_own, ↓onApp_t, ↓onApp_f, ↓ret_t, ↓ret_nil, ↓ret_c, ↓onCell_i, ↓ret_n, ↓ret_r, ↓onRet_i,
 ↓onO_some, ↓onC_true, ↓look, ↓putE, evF, evS, evOO, initE, keepE, boxOf, valOf, slOf, stOf, lenOf, killL, kill, killO, refA, ref0, refV, addRes, resS, resSV, ↓sz_nil, ↓sz_t, ↓sz_c, sz_ptr, Option.some.injEq, D.pre, D.nth, D.size, D.len, dget, doff, dset, D.setN, D.noOwn, isV_int, isV_bool, isV_str, isV_err, isV_sl, isV_st, isV_ptr, isV_clo, D.unown, D.app, ofL, List.replicate,
 List.getElem?_cons_zero, List.getElem?_cons_succ, List.getElem?_nil, List.set_cons_zero, List.set_cons_succ, List.length_cons, List.length_nil, List.length_append, List.cons_append, List.nil_append, List.append_nil, List.any_cons, List.any_nil, List.all_cons, List.all_nil, List.map_cons, List.map_nil,
 Nat.reduceEqDiff, Nat.reduceAdd, Nat.zero_add, Nat.add_zero, Nat.reduceSub, if_true, if_false, reduceIte, reduceCtorEq, Bool.false_eq_true, Bool.true_eq_false, Bool.not_true, Bool.not_false, Bool.and_true, Bool.true_and, Bool.and_false, Bool.false_and, Bool.or_false, Bool.false_or, Bool.or_true, Bool.true_or, true_and, and_true, beq_self_eq_true, SV.own.injEq, SV.ptr.injEq, ne_eq, not_false_eq_true, not_true_eq_false, eq_self, decide_true, decide_false, Nat.reduceBEq, beq_iff_eq, List.append_assoc, sz25])
      | (refine call_det (l1In_fn _ _ _) rfl rfl ?_)
      | (refine callP_det (l1In_fn _ _ _) rfl rfl ?_)
      | (refine call_det (l26Count_fn _) rfl rfl ?_)
      | (refine callP_det (l26Count_fn _) rfl rfl ?_)
      | (refine execG_split (fun h => ?_) (fun h => ?_) <;> simp only [h])
      | (refine execC_split (fun h => ?_) (fun h => ?_) <;> (try simp only [h]))
      | (refine onPick_split (fun h => ?_) (fun h => ?_) <;> (try simp only [h])))
  all_goals simp [Row.ok, *]
theorem specIsYearRow_fn (r : Row) : Fn prog 11 [r.d] (fun rs => rs = [.bool r.ok]) := by
  refine Fn_of' (fn := f11) (by exact func11) c11 r11 (n := 5) (by rfl) (rv := [.tmp 2]) (by rfl) (by simp) ?_
  unfold m11
  simp only [Row.d]
  repeat' (first
      | (simp only [↓execM_skip, ↓execM_seq, ↓execM_reg, ↓execM_ret, ↓execM_exit, ↓execM_block, ↓execM_cond, ↓execC_true, ↓execC_false, ↓thenQ_n, ↓thenQ_r, ↓thenQ_e, ↓inB_n, ↓inB_r, ↓inB_e,
 ↓execR_nil, ↓execR_op, ↓execR_g, ↓execG_true, ↓execG_false, ↓execG_tf, ↓execG_ft, ↓execG_un, ↓stepO_t, ↓stepO_f, ↓stepP_mov, ↓stepP_pick, ↓onPick_true, ↓onPick_false, ↓stepP_bin, ↓stepP_bb, ↓stepP_ie, ↓stepP_un, ↓stepP_nck, ↓onNck,
 ↓stepP_ld, ↓stepP_fa, ↓stepP_ia, ↓stepP_ix, ↓stepP_len, ↓stepP_ext, ↓stepP_conv, ↓stepP_sls, ↓stepP_mx, ↓stepP_callP, ↓stepE_call, evL, argsS, partsS, ↓int_add, ↓int_sub, ↓int_mul, ↓int_quo, ↓int_rem, ↓int_and, ↓int_or, ↓int_xor, ↓int_eql, ↓int_neq, ↓int_lss, ↓int_leq, ↓int_gtr, ↓int_geq,
 ↓bin_int, ↓bin_str, ↓str_add, ↓str_eql, ↓str_neq, ↓str_lss, ↓bb_eql, ↓bb_neq, ↓ie_eql, ↓ie_neq, ↓un_not, ↓un_neg, ↓conv_eq, ↓mx_eq, ↓len_str, ↓len_sl, ↓len_nil, ↓len_own, ↓ix_eq, ↓ia_d, ↓ia_own, ↓rd_int, ↓rd_bool, ↓rd_str, ↓rd_err, ↓rd_sl, ↓rd_st, ↓ld_d, ↓ld_ptr, ↓ld_el, ↓fa_d, ↓fa_ptr, ↓fa_el, ↓ext_eq,
 ↓take_d, ↓take_own, ↓take_vw, ↓store_ptr, ↓store_el, ↓E_box, ↓E_alloc, ↓E_st, ↓E_app, ↓E_bs, ↓E_bld, ↓onBld_t, ↓onBld_f, ↓E_mk, ↓onMk_i, ↓parts_nil, ↓parts_cons, ↓appB_nil, ↓appB_own, ↓appS_d, ↓appS_nil, ↓appS_own, ↓onApp_t, ↓onApp_f, ↓ret_t, ↓ret_nil, ↓ret_c, ↓onCell_i, ↓ret_n, ↓ret_r, ↓onRet_i,
 ↓onO_some, ↓onC_true, ↓look, ↓putE, evF, evS, evOO, initE, keepE, boxOf, valOf, slOf, stOf, lenOf, killL, kill, killO, refA, ref0, refV, addRes, resS, resSV, ↓sz_nil, ↓sz_t, ↓sz_c, sz_ptr, Option.some.injEq, D.pre, D.nth, D.size, D.len, dget, doff, dset, D.setN, D.noOwn, isV_int, isV_bool, isV_str, isV_err, isV_sl, isV_st, isV_ptr, isV_clo, D.unown, D.app, ofL, List.replicate,
 List.getElem?_cons_zero, List.getElem?_cons_succ, List.getElem?_nil, List.set_cons_zero, List.set_cons_succ, List.length_cons, List.length_nil, List.length_append, List.cons_append, List.nil_append, List.append_nil, List.any_cons, List.any_nil, List.all_cons, List.all_nil, List.map_cons, List.map_nil,
 Nat.reduceEqDiff, Nat.reduceAdd, Nat.zero_add, Nat.add_zero, Nat.reduceSub, if_true, if_false, reduceIte, reduceCtorEq, Bool.false_eq_true, Bool.true_eq_false, Bool.not_true, Bool.not_false, Bool.and_true, Bool.true_and, Bool.and_false, Bool.false_and, Bool.or_false, Bool.false_or, Bool.or_true, Bool.true_or, true_and, and_true, beq_self_eq_true, SV.own.injEq, SV.ptr.injEq, ne_eq, not_false_eq_true, not_true_eq_false, eq_self, decide_true, decide_false, Nat.reduceBEq, beq_iff_eq, List.append_assoc, sz25])
      | (refine call_det (l26One_fn _) rfl rfl ?_)
      | (refine callP_det (l26One_fn _) rfl rfl ?_)
      | (refine execG_split (fun h => ?_) (fun h => ?_) <;> simp only [h])
      | (refine execC_split (fun h => ?_) (fun h => ?_) <;> (try simp only [h]))
      | (refine onPick_split (fun h => ?_) (fun h => ?_) <;> (try simp only [h])))
end Go.Pe.Try
