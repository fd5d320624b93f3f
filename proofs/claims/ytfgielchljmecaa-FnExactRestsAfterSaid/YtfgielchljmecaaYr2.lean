/- The law of IsYearRow, walked. -/
import Derived.Test.YtfgielchljmecaaYr1
import Derived.Test.YtfgielchljmecaaPeC
set_option maxRecDepth 100000
set_option maxHeartbeats 4000000
set_option linter.all false
namespace Go.Pe.Try
open Go.Proofs.Try
theorem toYearRow_fn (r : Row) : Fn prog 12 [r.d] (fun rs => rs = [r.d]) := by
  refine Fn_of' (fn := f12) (by exact func12) c12 r12 (n := 20) (by rfl) (rv := [.cell 2 25]) (by rfl) (by simp) ?_
  unfold m12
  simp only [Row.d]
  repeat' (first
      | (simp only [↓execM_skip, ↓execM_seq, ↓execM_reg, ↓execM_ret, ↓execM_exit, ↓execM_block, ↓execM_cond, ↓execC_true, ↓execC_false, ↓thenQ_n, ↓thenQ_r, ↓thenQ_e, ↓inB_n, ↓inB_r, ↓inB_e,
 ↓execR_nil, ↓execR_op, ↓execR_g, ↓execG_true, ↓execG_false, ↓execG_tf, ↓execG_ft, ↓execG_un, ↓stepO_t, ↓stepO_f, ↓stepP_mov, ↓stepP_pick, ↓onPick_true, ↓onPick_false, ↓stepP_bin, ↓stepP_bb, ↓stepP_ie, ↓stepP_un, ↓stepP_nck, ↓onNck,
 ↓stepP_ld, ↓stepP_fa, ↓stepP_ia, ↓stepP_ix, ↓stepP_len, ↓stepP_ext, ↓stepP_conv, ↓stepP_sls, ↓stepP_mx, ↓stepP_callP, ↓stepE_call, evL, argsS, partsS, ↓int_add, ↓int_sub, ↓int_mul, ↓int_quo, ↓int_rem, ↓int_and, ↓int_or, ↓int_xor, ↓int_eql, ↓int_neq, ↓int_lss, ↓int_leq, ↓int_gtr, ↓int_geq,
 ↓bin_int, ↓bin_str, ↓str_add, ↓str_eql, ↓str_neq, ↓str_lss, ↓bb_eql, ↓bb_neq, ↓ie_eql, ↓ie_neq, ↓un_not, ↓un_neg, ↓conv_eq, ↓mx_eq, ↓len_str, ↓len_sl, ↓len_nil, ↓len_own, ↓ix_eq, ↓ia_d, ↓ia_own, ↓rd_int, ↓rd_bool, ↓rd_str, ↓rd_err, ↓rd_sl, ↓rd_st, ↓ld_d, ↓ld_ptr, ↓ld_el, ↓fa_d, ↓fa_ptr, ↓fa_el, ↓ext_eq,
 ↓take_d, ↓take_own, ↓take_vw, ↓store_ptr, ↓store_el, ↓E_box, ↓E_alloc, ↓E_st, ↓E_app, ↓E_bs, ↓E_bld, ↓onBld_t, ↓onBld_f, ↓E_mk, ↓onMk_i, ↓parts_nil, ↓parts_cons, ↓appB_nil, ↓appB_own, ↓appS_d, ↓appS_nil, ↓appS_own, ↓onApp_t, ↓onApp_f, ↓ret_t, ↓ret_nil, ↓ret_c, ↓onCell_i, ↓ret_n, ↓ret_r, ↓onRet_i, ↓retM_n, ↓retM_r, ↓onRetM_i, ↓retO_t, ↓retO_nil, ↓retO_c, ↓onOb_f, ↓onOb_t, firstS, mkOb,
 ↓onO_some, ↓onC_true, ↓look, ↓putE, evF, evS, evOO, initE, keepE, boxOf, valOf, slOf, stOf, lenOf, killL, kill, killO, refA, ref0, refV, addRes, resS, resSV, ↓sz_nil, ↓sz_t, ↓sz_c, sz_ptr, Option.some.injEq, D.pre, D.nth, D.size, D.len, dget, doff, dset, D.setN, D.noOwn, isV_int, isV_bool, isV_str, isV_err, isV_sl, isV_st, isV_ptr, isV_clo, D.unown, D.app, ofL, List.replicate,
 List.getElem?_cons_zero, List.getElem?_cons_succ, List.getElem?_nil, List.set_cons_zero, List.set_cons_succ, List.length_cons, List.length_nil, List.length_append, List.cons_append, List.nil_append, List.append_nil, List.any_cons, List.any_nil, List.all_cons, List.all_nil, List.map_cons, List.map_nil,
 Nat.reduceEqDiff, Nat.reduceAdd, Nat.zero_add, Nat.add_zero, Nat.reduceSub, if_true, if_false, reduceIte, reduceCtorEq, Bool.false_eq_true, Bool.true_eq_false, Bool.not_true, Bool.not_false, Bool.and_true, Bool.true_and, Bool.and_false, Bool.false_and, Bool.or_false, Bool.false_or, Bool.or_true, Bool.true_or, true_and, and_true, beq_self_eq_true, SV.own.injEq, SV.ptr.injEq, ne_eq, not_false_eq_true, not_true_eq_false, eq_self, decide_true, decide_false, Nat.reduceBEq, beq_iff_eq, List.append_assoc, sz25])
      | (refine execG_split (fun h => ?_) (fun h => ?_) <;> simp only [h])
      | (refine execC_split (fun h => ?_) (fun h => ?_) <;> (try simp only [h]))
      | (refine onPick_split (fun h => ?_) (fun h => ?_) <;> (try simp only [h])))
theorem law3_fn (r : Row) : Fn prog 3 [r.d] (fun rs => rs = [.bool true]) := by
  refine Fn_of' (fn := f3) (by exact func3) c3 r3 (n := 14) (by rfl) (rv := [.tmp 2]) (by rfl) (by simp) ?_
  unfold m3
  simp only [Row.d]
  repeat' (first
      | (simp only [Row.d, ↓execM_skip, ↓execM_seq, ↓execM_reg, ↓execM_ret, ↓execM_exit, ↓execM_block, ↓execM_cond, ↓execC_true, ↓execC_false, ↓thenQ_n, ↓thenQ_r, ↓thenQ_e, ↓inB_n, ↓inB_r, ↓inB_e,
 ↓execR_nil, ↓execR_op, ↓execR_g, ↓execG_true, ↓execG_false, ↓execG_tf, ↓execG_ft, ↓execG_un, ↓stepO_t, ↓stepO_f, ↓stepP_mov, ↓stepP_pick, ↓onPick_true, ↓onPick_false, ↓stepP_bin, ↓stepP_bb, ↓stepP_ie, ↓stepP_un, ↓stepP_nck, ↓onNck,
 ↓stepP_ld, ↓stepP_fa, ↓stepP_ia, ↓stepP_ix, ↓stepP_len, ↓stepP_ext, ↓stepP_conv, ↓stepP_sls, ↓stepP_mx, ↓stepP_callP, ↓stepE_call, evL, argsS, partsS, ↓int_add, ↓int_sub, ↓int_mul, ↓int_quo, ↓int_rem, ↓int_and, ↓int_or, ↓int_xor, ↓int_eql, ↓int_neq, ↓int_lss, ↓int_leq, ↓int_gtr, ↓int_geq,
 ↓bin_int, ↓bin_str, ↓str_add, ↓str_eql, ↓str_neq, ↓str_lss, ↓bb_eql, ↓bb_neq, ↓ie_eql, ↓ie_neq, ↓un_not, ↓un_neg, ↓conv_eq, ↓mx_eq, ↓len_str, ↓len_sl, ↓len_nil, ↓len_own, ↓ix_eq, ↓ia_d, ↓ia_own, ↓rd_int, ↓rd_bool, ↓rd_str, ↓rd_err, ↓rd_sl, ↓rd_st, ↓ld_d, ↓ld_ptr, ↓ld_el, ↓fa_d, ↓fa_ptr, ↓fa_el, ↓ext_eq,
 ↓take_d, ↓take_own, ↓take_vw, ↓store_ptr, ↓store_el, ↓E_box, ↓E_alloc, ↓E_st, ↓E_app, ↓E_bs, ↓E_bld, ↓onBld_t, ↓onBld_f, ↓E_mk, ↓onMk_i, ↓parts_nil, ↓parts_cons, ↓appB_nil, ↓appB_own, ↓appS_d, ↓appS_nil, ↓appS_own, ↓onApp_t, ↓onApp_f, ↓ret_t, ↓ret_nil, ↓ret_c, ↓onCell_i, ↓ret_n, ↓ret_r, ↓onRet_i, ↓retM_n, ↓retM_r, ↓onRetM_i, ↓retO_t, ↓retO_nil, ↓retO_c, ↓onOb_f, ↓onOb_t, firstS, mkOb,
 ↓onO_some, ↓onC_true, ↓look, ↓putE, evF, evS, evOO, initE, keepE, boxOf, valOf, slOf, stOf, lenOf, killL, kill, killO, refA, ref0, refV, addRes, resS, resSV, ↓sz_nil, ↓sz_t, ↓sz_c, sz_ptr, Option.some.injEq, D.pre, D.nth, D.size, D.len, dget, doff, dset, D.setN, D.noOwn, isV_int, isV_bool, isV_str, isV_err, isV_sl, isV_st, isV_ptr, isV_clo, D.unown, D.app, ofL, List.replicate,
 List.getElem?_cons_zero, List.getElem?_cons_succ, List.getElem?_nil, List.set_cons_zero, List.set_cons_succ, List.length_cons, List.length_nil, List.length_append, List.cons_append, List.nil_append, List.append_nil, List.any_cons, List.any_nil, List.all_cons, List.all_nil, List.map_cons, List.map_nil,
 Nat.reduceEqDiff, Nat.reduceAdd, Nat.zero_add, Nat.add_zero, Nat.reduceSub, if_true, if_false, reduceIte, reduceCtorEq, Bool.false_eq_true, Bool.true_eq_false, Bool.not_true, Bool.not_false, Bool.and_true, Bool.true_and, Bool.and_false, Bool.false_and, Bool.or_false, Bool.false_or, Bool.or_true, Bool.true_or, true_and, and_true, beq_self_eq_true, SV.own.injEq, SV.ptr.injEq, ne_eq, not_false_eq_true, not_true_eq_false, eq_self, decide_true, decide_false, Nat.reduceBEq, beq_iff_eq, List.append_assoc, sz25])
      | (refine call_det (toYearRow_fn r) rfl rfl ?_)
      | (refine callP_det (toYearRow_fn r) rfl rfl ?_)
      | (refine call_det (specIsYearRow_fn r) rfl rfl ?_)
      | (refine callP_det (specIsYearRow_fn r) rfl rfl ?_)
      | (refine call_det (isYearRow_fn r) rfl rfl ?_)
      | (refine callP_det (isYearRow_fn r) rfl rfl ?_)
      | (refine execG_split (fun h => ?_) (fun h => ?_) <;> simp only [h])
      | (refine execC_split (fun h => ?_) (fun h => ?_) <;> (try simp only [h]))
      | (refine onPick_split (fun h => ?_) (fun h => ?_) <;> (try simp only [h])))
def rowSh : Sh := .st (.cons (.int .i64) (.cons (.int .i64) (.cons (.int .i64) (.cons (.int .i64) (.cons (.int .i64) .nil)))))
theorem inR_of {n : Int} (h : (Lit.int .i64 n).wf = true) : InR .i64 n := by
  simp only [Lit.wf, Bool.and_eq_true, decide_eq_true_eq] at h
  exact h
theorem row_of (x : D) (h : Typed rowSh x) : ∃ r : Row, x = r.d ∧ InR .i64 r.y ∧ InR .i64 r.m ∧ InR .i64 r.k ∧ InR .i64 r.x ∧ InR .i64 r.g := by
  obtain ⟨xs, rfl, y0, ys, rfl, ⟨a, rfl, ha⟩, y1, ys, rfl, ⟨b, rfl, hb⟩, y2, ys, rfl, ⟨c, rfl, hc⟩, y3, ys, rfl, ⟨d, rfl, hd⟩, y4, ys, rfl, ⟨e, rfl, he⟩, rfl⟩ := h
  exact ⟨⟨a, b, c, d, e⟩, rfl, inR_of ha, inR_of hb, inR_of hc, inR_of hd, inR_of he⟩
theorem law3 (x0 : D) (h0 : Typed rowSh x0) : Fn prog 3 [x0] (fun rs => rs = [.bool true]) := by
  obtain ⟨r, rfl, _⟩ := row_of x0 h0
  exact law3_fn r
end Go.Pe.Try
