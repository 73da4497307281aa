/-
  A reading of the machine's code over plain values, proved to say what the machine does (part 5).
-/
import Derived.Test.YtbmmbefgmhhciaaGreatEd
import Derived.ProofKit
import Derived.ChangeSame
set_option linter.unusedSimpArgs false
set_option linter.unusedVariables false
set_option linter.unusedSectionVars false
namespace GoV
open Go
theorem RUN : (((((((((type_of% @WW_skip ∧ type_of% @WW_label) ∧ (type_of% @WW_exit ∧ type_of% @WW_ret)) ∧ ((type_of% @WW_seq ∧ type_of% @WW_cond) ∧ (type_of% @WW_block ∧ type_of% @WW_reg))) ∧ (((type_of% @WW_draw ∧ type_of% @drawK_true) ∧ (type_of% @orK_some ∧ type_of% @orK_none)) ∧ ((type_of% @orK_ite ∧ type_of% @drK_none) ∧ (type_of% @drK_some ∧ type_of% @drK_ite)))) ∧ ((((type_of% @seqK_none ∧ type_of% @seqK_normal) ∧ (type_of% @seqK_ret ∧ type_of% @seqK_exit)) ∧ ((type_of% @seqK_pan ∧ type_of% @seqK_ite) ∧ (type_of% @condK_true ∧ type_of% @condK_false))) ∧ (((type_of% @condK_dec ∧ type_of% @condK_ite) ∧ (type_of% @blockK_none ∧ type_of% @blockK_normal)) ∧ ((type_of% @blockK_ret ∧ type_of% @blockK_exit) ∧ (type_of% @blockK_pan ∧ (type_of% @blockK_ite ∧ type_of% @regK_none)))))) ∧ (((((type_of% @regK_normal ∧ type_of% @regK_pan) ∧ (type_of% @regK_ite ∧ type_of% @chkL_nil)) ∧ ((type_of% @chkL_ro ∧ type_of% @dstAt_arr) ∧ (type_of% @dstL_zero ∧ type_of% @dstL_succ))) ∧ (((type_of% @runL_nil ∧ type_of% @runL_go) ∧ (type_of% @runL_if ∧ type_of% @ifK_some)) ∧ ((type_of% @grK_tt ∧ type_of% @grK_ff) ∧ (type_of% @grK_tf ∧ (type_of% @grK_ft ∧ type_of% @grK_tup))))) ∧ ((((type_of% @grK_ite ∧ type_of% @opK_none) ∧ (type_of% @opK_val ∧ type_of% @opK_pan)) ∧ ((type_of% @opK_ite ∧ type_of% @putK_none) ∧ (type_of% @putK_some ∧ type_of% @evS_tmp))) ∧ (((type_of% @evS_const ∧ type_of% @evS_func) ∧ (type_of% @grK_dec ∧ type_of% @runD_nil)) ∧ ((type_of% @runD_go ∧ type_of% @runD_if) ∧ (type_of% @dIf_some ∧ (type_of% @dGr_tt ∧ type_of% @dGr_ff))))))) ∧ ((((((type_of% @dGr_tf ∧ type_of% @dGr_ft) ∧ (type_of% @dGr_tup ∧ type_of% @dGr_dec)) ∧ ((type_of% @dOp_none ∧ type_of% @dOp_val) ∧ (type_of% @dOp_ite ∧ type_of% @dPut_none))) ∧ (((type_of% @dPut_some ∧ type_of% @addL_nil) ∧ (type_of% @addL_r ∧ type_of% @addL_w)) ∧ ((type_of% @mf_move ∧ type_of% @mf_pick) ∧ (type_of% @mf_build ∧ type_of% @mf_bin)))) ∧ ((((type_of% @mf_un ∧ type_of% @mf_convert) ∧ (type_of% @mf_fieldAddr ∧ type_of% @mf_field)) ∧ ((type_of% @mf_index ∧ type_of% @mf_indexAddr) ∧ (type_of% @mf_slice ∧ type_of% @mf_extract))) ∧ (((type_of% @mf_makeInterface ∧ type_of% @mf_makeFunc) ∧ (type_of% @mf_len ∧ type_of% @mf_max)) ∧ ((type_of% @mf_min ∧ type_of% @mf_assign) ∧ (type_of% @mf_load ∧ (type_of% @mf_store ∧ type_of% @mf_box)))))) ∧ (((((type_of% @mf_alloc ∧ type_of% @mf_buildSlice) ∧ (type_of% @mf_makeSlice ∧ type_of% @mf_makeMap)) ∧ ((type_of% @mf_lookup ∧ type_of% @mf_mapUpdate) ∧ (type_of% @mapF_map ∧ type_of% @mf_append))) ∧ (((type_of% @mf_call ∧ type_of% @mfCall_fn) ∧ (type_of% @mfCall_yield ∧ type_of% @newF_some)) ∧ ((type_of% @addrF_bptr ∧ type_of% @addrF_ptr) ∧ (type_of% @addrF_rop ∧ (type_of% @slF_int ∧ type_of% @slF_bool))))) ∧ ((((type_of% @slF_str ∧ type_of% @slF_agg) ∧ (type_of% @slF_vs ∧ type_of% @slF_gsl)) ∧ ((type_of% @slF_nils ∧ type_of% @slF_nilf) ∧ (type_of% @slF_nili ∧ type_of% @slF_nilp))) ∧ (((type_of% @slF_fn ∧ type_of% @slF_iface) ∧ (type_of% @slF_rop ∧ type_of% @slF0_int)) ∧ ((type_of% @slF0_bool ∧ type_of% @slF0_str) ∧ (type_of% @slF0_vs ∧ (type_of% @slF0_gsl ∧ type_of% @slF0_nils)))))))) ∧ (((((((type_of% @slF0_nilf ∧ type_of% @slF0_nili) ∧ (type_of% @slF0_nilp ∧ type_of% @slF0_fn)) ∧ ((type_of% @slF0_iface ∧ type_of% @slF0_rop) ∧ (type_of% @slF0_agg ∧ type_of% @appF_gsl))) ∧ (((type_of% @appF_nils ∧ type_of% @appF_vs) ∧ (type_of% @both_mk ∧ type_of% @op_move)) ∧ ((type_of% @op_assign ∧ type_of% @op_pick) ∧ (type_of% @op_build ∧ type_of% @op_bin)))) ∧ ((((type_of% @op_un ∧ type_of% @op_convert) ∧ (type_of% @op_fieldAddr ∧ type_of% @op_field)) ∧ ((type_of% @op_index ∧ type_of% @op_indexAddr) ∧ (type_of% @op_slice ∧ type_of% @op_extract))) ∧ (((type_of% @op_load ∧ type_of% @op_store) ∧ (type_of% @op_box ∧ type_of% @op_alloc)) ∧ ((type_of% @op_buildSlice ∧ type_of% @op_makeSlice) ∧ (type_of% @op_makeMap ∧ (type_of% @op_lookup ∧ type_of% @op_mapUpdate)))))) ∧ (((((type_of% @op_makeInterface ∧ type_of% @op_makeFunc) ∧ (type_of% @op_len ∧ type_of% @op_max)) ∧ ((type_of% @op_min ∧ type_of% @op_recover) ∧ (type_of% @opw_panic ∧ type_of% @opw_defer))) ∧ (((type_of% @op_append ∧ type_of% @op_call) ∧ (type_of% @valO_some ∧ type_of% @valO_none)) ∧ ((type_of% @valO_ite ∧ type_of% @pickK_true) ∧ (type_of% @pickK_false ∧ (type_of% @pickK_dec ∧ type_of% @buildK_some))))) ∧ ((((type_of% @aggO_some ∧ type_of% @fillPV_nil) ∧ (type_of% @fillPV_cons ∧ type_of% @fillK_some)) ∧ ((type_of% @fillS_some ∧ type_of% @fillT_some) ∧ (type_of% @fAddrK_bptr ∧ type_of% @fAddrK_ptr))) ∧ (((type_of% @fAddrK_rop ∧ type_of% @fieldK_agg) ∧ (type_of% @partK_agg ∧ type_of% @partK_one)) ∧ ((type_of% @xAddrK_slice ∧ type_of% @xAddrK_arr) ∧ (type_of% @rowC_some ∧ (type_of% @iAddrK_vs ∧ type_of% @iAddrK_gsl))))))) ∧ ((((((type_of% @iAddrK_nils ∧ type_of% @aAddrK_bptr) ∧ (type_of% @aAddrK_ptr ∧ type_of% @aAddrK_rop)) ∧ ((type_of% @idx_int ∧ type_of% @loadK_agg) ∧ (type_of% @loadK_one ∧ type_of% @nvK_some))) ∧ (((type_of% @nextVer_none ∧ type_of% @nextVer_some) ∧ (type_of% @newVar_some ∧ type_of% @allocK_some)) ∧ ((type_of% @accNv_some ∧ type_of% @accK_some) ∧ (type_of% @accK2_some ∧ (type_of% @extrK_tup ∧ type_of% @extrK_ite))))) ∧ ((((type_of% @convK_int ∧ type_of% @bslE_some) ∧ (type_of% @bslK_some ∧ type_of% @bslF_t)) ∧ ((type_of% @bslF_f ∧ type_of% @fillSl_nil) ∧ (type_of% @fillSl_cons ∧ type_of% @lookE_some))) ∧ (((type_of% @lookZ_some ∧ type_of% @lookX_map) ∧ (type_of% @lookW_some ∧ type_of% @lookF_some)) ∧ ((type_of% @lookR_some ∧ type_of% @lookR_none) ∧ (type_of% @updE_some ∧ (type_of% @updX_map ∧ type_of% @updW_some)))))) ∧ (((((type_of% @updG_some ∧ type_of% @updF_some) ∧ (type_of% @mslE_some ∧ type_of% @mslK_some)) ∧ ((type_of% @appE_some ∧ type_of% @appK_some) ∧ (type_of% @appF2_some ∧ type_of% @elemsOf_nils))) ∧ (((type_of% @elemsOf_vs ∧ type_of% @elemsOf_gsl) ∧ (type_of% @appendV_gsl ∧ type_of% @appG_some)) ∧ ((type_of% @appendV_nils ∧ type_of% @appendV_vs) ∧ (type_of% @lenK_vs ∧ (type_of% @lenK_gsl ∧ type_of% @lenK_nils))))) ∧ ((((type_of% @lenK_str ∧ type_of% @recK_no) ∧ (type_of% @recK_pan ∧ type_of% @panK_iface)) ∧ ((type_of% @defK_fn ∧ type_of% @idxK_some) ∧ (type_of% @idxK_none ∧ type_of% @byteO_some))) ∧ (((type_of% @strK_str ∧ type_of% @strK_agg) ∧ (type_of% @sliceK_some ∧ type_of% @optIdx_none)) ∧ ((type_of% @optIdx_some ∧ type_of% @someO_some) ∧ (type_of% @slicePV_vs ∧ (type_of% @slicePV_gsl ∧ type_of% @apK_ret))))))))) ∧ ((((((((type_of% @apK_pan ∧ type_of% @apK_ite) ∧ (type_of% @cfK_ret ∧ type_of% @cfK_pan)) ∧ ((type_of% @cfK_ite ∧ type_of% @callV_fn) ∧ (type_of% @callV_yield ∧ type_of% @callK_iso))) ∧ (((type_of% @callK_in ∧ type_of% @argK_mk) ∧ (type_of% @freezeArgs_nil ∧ type_of% @freezeArgs_cons)) ∧ ((type_of% @consA_mk ∧ type_of% @consB_mk) ∧ (type_of% @freezeArg_bool ∧ type_of% @freezeArg_int)))) ∧ ((((type_of% @freezeArg_str ∧ type_of% @freezeArg_nilp) ∧ (type_of% @freezeArg_nilf ∧ type_of% @freezeArg_nili)) ∧ ((type_of% @freezeArg_nils ∧ type_of% @aggA_mk) ∧ (type_of% @freezeArg_agg ∧ type_of% @freezeArg_vs))) ∧ (((type_of% @freezeArg_fn ∧ type_of% @freezeArg_rop) ∧ (type_of% @freezeArg_iface ∧ type_of% @freezeArg_gsl)) ∧ ((type_of% @frzK_some ∧ type_of% @freezeArgs0_nil) ∧ (type_of% @freezeArgs0_cons ∧ (type_of% @consC_mk ∧ type_of% @freezeArg0_bool)))))) ∧ (((((type_of% @freezeArg0_int ∧ type_of% @freezeArg0_str) ∧ (type_of% @freezeArg0_nilp ∧ type_of% @freezeArg0_nilf)) ∧ ((type_of% @freezeArg0_nili ∧ type_of% @freezeArg0_nils) ∧ (type_of% @freezeArg0_agg ∧ type_of% @freezeArg0_vs))) ∧ (((type_of% @freezeArg0_fn ∧ type_of% @freezeArg0_rop) ∧ (type_of% @freezeArg0_iface ∧ type_of% @freezeArg0_gsl)) ∧ ((type_of% @strip0L_nil ∧ type_of% @strip0L_cons) ∧ (type_of% @strip0_bool ∧ (type_of% @strip0_int ∧ type_of% @strip0_str))))) ∧ ((((type_of% @strip0_nilp ∧ type_of% @strip0_nilf) ∧ (type_of% @strip0_nili ∧ type_of% @strip0_nils)) ∧ ((type_of% @strip0_agg ∧ type_of% @strip0_vs) ∧ (type_of% @strip0_fn ∧ type_of% @strip0_iface))) ∧ (((type_of% @vsO_some ∧ type_of% @strip1L_nil) ∧ (type_of% @strip1L_cons ∧ type_of% @strip2L_nil)) ∧ ((type_of% @strip2L_cons ∧ type_of% @strip1_bool) ∧ (type_of% @strip1_int ∧ (type_of% @strip1_nils ∧ type_of% @strip1_agg))))))) ∧ ((((((type_of% @strip1_vs ∧ type_of% @strip1_gsl) ∧ (type_of% @strip2_bool ∧ type_of% @strip2_int)) ∧ ((type_of% @strip2_str ∧ type_of% @strip2_nilp) ∧ (type_of% @strip2_nilf ∧ type_of% @strip2_nili))) ∧ (((type_of% @strip2_nils ∧ type_of% @strip2_agg) ∧ (type_of% @strip2_tup ∧ type_of% @strip2_vs)) ∧ ((type_of% @strip2_fn ∧ type_of% @strip2_iface) ∧ (type_of% @strip2_gsl ∧ (type_of% @rowEs_K ∧ type_of% @rowEsK_some))))) ∧ ((((type_of% @cellsD_some ∧ type_of% @getAt_bptr) ∧ (type_of% @getAt_ptr ∧ type_of% @getAt_rop)) ∧ ((type_of% @boxAt_some ∧ type_of% @rowAt_some) ∧ (type_of% @putBS_some ∧ type_of% @putRS_some))) ∧ (((type_of% @putRE_some ∧ type_of% @storeK_bptr) ∧ (type_of% @putBox_some ∧ type_of% @storeK_ptr)) ∧ ((type_of% @putRow_some ∧ type_of% @splice_eq) ∧ (type_of% @reCell_agg ∧ (type_of% @reCell_int ∧ type_of% @reCell_bool)))))) ∧ (((((type_of% @reCell_gsl ∧ type_of% @reCell_vs) ∧ (type_of% @reCell_nils ∧ type_of% @reCell_nilm)) ∧ ((type_of% @reCell_map ∧ type_of% @reCell_nilf) ∧ (type_of% @reCell_fn ∧ type_of% @heap_set_rows))) ∧ (((type_of% @heap_set_next ∧ type_of% @heap_add_rows) ∧ (type_of% @heap_add_next ∧ type_of% @bin_add)) ∧ ((type_of% @bin_sub ∧ type_of% @bin_mul) ∧ (type_of% @bin_quo ∧ (type_of% @bin_rem ∧ type_of% @bin_shl))))) ∧ ((((type_of% @bin_shr ∧ type_of% @bin_and) ∧ (type_of% @bin_or ∧ type_of% @bin_eql)) ∧ ((type_of% @bin_neq ∧ type_of% @bin_lss) ∧ (type_of% @bin_leq ∧ type_of% @bin_gtr))) ∧ (((type_of% @bin_geq ∧ type_of% @un_neg) ∧ (type_of% @un_not ∧ type_of% @un_not_true)) ∧ ((type_of% @un_not_false ∧ type_of% @bin_eql_bool) ∧ (type_of% @bin_neq_bool ∧ (type_of% @eqBK_bool ∧ type_of% @boolO_some)))))))) ∧ (((((((type_of% @notO_some ∧ type_of% @fold_max2) ∧ (type_of% @fold_min2 ∧ type_of% @fold_max3)) ∧ ((type_of% @ofV_int ∧ type_of% @ofV_bool) ∧ (type_of% @ofV_str ∧ type_of% @ofV_nilf))) ∧ (((type_of% @ofV_nili ∧ type_of% @ofV_nilp) ∧ (type_of% @ofV_nils ∧ type_of% @ofV_nilm)) ∧ ((type_of% @fits_int ∧ type_of% @fits_bool) ∧ (type_of% @fits_str ∧ type_of% @fits_agg)))) ∧ ((((type_of% @fits_vs ∧ type_of% @fits_gsl) ∧ (type_of% @fits_nils ∧ type_of% @fits_nilm)) ∧ ((type_of% @fits_map ∧ type_of% @fits_nilf) ∧ (type_of% @fits_nili ∧ type_of% @fits_nilp))) ∧ (((type_of% @fits_fn ∧ type_of% @fits_bptr) ∧ (type_of% @fits_ptr ∧ type_of% @fits_iface)) ∧ ((type_of% @cells_int ∧ type_of% @cells_bool) ∧ (type_of% @cells_str ∧ (type_of% @cells_agg ∧ type_of% @cells_vs)))))) ∧ (((((type_of% @cells_gsl ∧ type_of% @cells_nils) ∧ (type_of% @cells_nilm ∧ type_of% @cells_map)) ∧ ((type_of% @cells_nilf ∧ type_of% @cells_nili) ∧ (type_of% @cells_fn ∧ type_of% @cells_ptr))) ∧ (((type_of% @isNils_int ∧ type_of% @isNils_bool) ∧ (type_of% @isNils_str ∧ type_of% @isNils_agg)) ∧ ((type_of% @isNils_vs ∧ type_of% @isNils_gsl) ∧ (type_of% @isNils_nils ∧ (type_of% @isNils_nilm ∧ type_of% @isNils_map))))) ∧ ((((type_of% @isNils_nilf ∧ type_of% @isNils_nili) ∧ (type_of% @isNils_fn ∧ type_of% @dstIn_nil)) ∧ ((type_of% @dstIn_none ∧ type_of% @dstIn_some) ∧ (type_of% @upd_tm ∧ type_of% @tm_apply))) ∧ (((type_of% @tmK_some ∧ type_of% @tmK_none) ∧ (type_of% @look_lf ∧ type_of% @look_no0)) ∧ ((type_of% @look_nd0 ∧ type_of% @look_no_t) ∧ (type_of% @look_no_f ∧ (type_of% @look_nd_t ∧ type_of% @look_nd_f))))))) ∧ ((((((type_of% @ins_lf0 ∧ type_of% @ins_no0) ∧ (type_of% @ins_nd0 ∧ type_of% @ins_lf_t)) ∧ ((type_of% @ins_lf_f ∧ type_of% @ins_no_t) ∧ (type_of% @ins_no_f ∧ type_of% @ins_nd_t))) ∧ (((type_of% @ins_nd_f ∧ type_of% @start_tm) ∧ (type_of% @endF_none ∧ type_of% @endF_normal)) ∧ ((type_of% @endF_ret ∧ type_of% @endF_pan) ∧ (type_of% @endF_ite ∧ (type_of% @endK_none ∧ type_of% @endK_pan))))) ∧ ((((type_of% @resK_some ∧ type_of% @resK_ite) ∧ (type_of% @apE_none ∧ type_of% @apE_ret)) ∧ ((type_of% @apE_pan ∧ type_of% @apE_ite) ∧ (type_of% @resPV_nil ∧ type_of% @resPV_cons))) ∧ (((type_of% @res1_tmp ∧ type_of% @res1_cell) ∧ (type_of% @ldO_agg ∧ type_of% @ldO_one)) ∧ ((type_of% @consO_some ∧ type_of% @tupPV_1) ∧ (type_of% @tupPV_0 ∧ (type_of% @tupPV_2 ∧ type_of% @G_eq)))))) ∧ (((((type_of% @codeOK_region ∧ type_of% @codeOK_seq) ∧ (type_of% @codeOK_cond ∧ type_of% @codeOK_block)) ∧ ((type_of% @codeOK_loop ∧ type_of% @codeOK_skip) ∧ (type_of% @codeOK_ret ∧ type_of% @codeOK_exit))) ∧ (((type_of% @codeOK_label ∧ type_of% @codeOK_range) ∧ (type_of% @WW_range ∧ type_of% @rangeK_none)) ∧ ((type_of% @rngC_eq ∧ type_of% @rngK_ret) ∧ (type_of% @rngR_ready ∧ (type_of% @rngR_ret ∧ type_of% @rngR_exit))))) ∧ ((((type_of% @yieldF_eq ∧ type_of% @yK_ready) ∧ (type_of% @yT_some ∧ type_of% @yA_normal)) ∧ ((type_of% @yB_ready ∧ type_of% @yE_some) ∧ (type_of% @yE_ite ∧ type_of% @yE2_normal))) ∧ (((type_of% @yE2_ret ∧ type_of% @yE2_exit) ∧ (type_of% @putPs_nil ∧ type_of% @putPs_cons)) ∧ ((type_of% @endK_coll ∧ type_of% @endC_dfr) ∧ (type_of% @upd_apply ∧ (type_of% @dstAt_eq ∧ type_of% @endK_nd)))))))))):=
  ⟨⟨⟨⟨⟨⟨⟨⟨⟨@WW_skip,@WW_label⟩,⟨@WW_exit,@WW_ret⟩⟩,⟨⟨@WW_seq,@WW_cond⟩,⟨@WW_block,@WW_reg⟩⟩⟩,⟨⟨⟨@WW_draw,@drawK_true⟩,⟨@orK_some,@orK_none⟩⟩,⟨⟨@orK_ite,@drK_none⟩,⟨@drK_some,@drK_ite⟩⟩⟩⟩,⟨⟨⟨⟨@seqK_none,@seqK_normal⟩,⟨@seqK_ret,@seqK_exit⟩⟩,⟨⟨@seqK_pan,@seqK_ite⟩,⟨@condK_true,@condK_false⟩⟩⟩,⟨⟨⟨@condK_dec,@condK_ite⟩,⟨@blockK_none,@blockK_normal⟩⟩,⟨⟨@blockK_ret,@blockK_exit⟩,⟨@blockK_pan,⟨@blockK_ite,@regK_none⟩⟩⟩⟩⟩⟩,⟨⟨⟨⟨⟨@regK_normal,@regK_pan⟩,⟨@regK_ite,@chkL_nil⟩⟩,⟨⟨@chkL_ro,@dstAt_arr⟩,⟨@dstL_zero,@dstL_succ⟩⟩⟩,⟨⟨⟨@runL_nil,@runL_go⟩,⟨@runL_if,@ifK_some⟩⟩,⟨⟨@grK_tt,@grK_ff⟩,⟨@grK_tf,⟨@grK_ft,@grK_tup⟩⟩⟩⟩⟩,⟨⟨⟨⟨@grK_ite,@opK_none⟩,⟨@opK_val,@opK_pan⟩⟩,⟨⟨@opK_ite,@putK_none⟩,⟨@putK_some,@evS_tmp⟩⟩⟩,⟨⟨⟨@evS_const,@evS_func⟩,⟨@grK_dec,@runD_nil⟩⟩,⟨⟨@runD_go,@runD_if⟩,⟨@dIf_some,⟨@dGr_tt,@dGr_ff⟩⟩⟩⟩⟩⟩⟩,⟨⟨⟨⟨⟨⟨@dGr_tf,@dGr_ft⟩,⟨@dGr_tup,@dGr_dec⟩⟩,⟨⟨@dOp_none,@dOp_val⟩,⟨@dOp_ite,@dPut_none⟩⟩⟩,⟨⟨⟨@dPut_some,@addL_nil⟩,⟨@addL_r,@addL_w⟩⟩,⟨⟨@mf_move,@mf_pick⟩,⟨@mf_build,@mf_bin⟩⟩⟩⟩,⟨⟨⟨⟨@mf_un,@mf_convert⟩,⟨@mf_fieldAddr,@mf_field⟩⟩,⟨⟨@mf_index,@mf_indexAddr⟩,⟨@mf_slice,@mf_extract⟩⟩⟩,⟨⟨⟨@mf_makeInterface,@mf_makeFunc⟩,⟨@mf_len,@mf_max⟩⟩,⟨⟨@mf_min,@mf_assign⟩,⟨@mf_load,⟨@mf_store,@mf_box⟩⟩⟩⟩⟩⟩,⟨⟨⟨⟨⟨@mf_alloc,@mf_buildSlice⟩,⟨@mf_makeSlice,@mf_makeMap⟩⟩,⟨⟨@mf_lookup,@mf_mapUpdate⟩,⟨@mapF_map,@mf_append⟩⟩⟩,⟨⟨⟨@mf_call,@mfCall_fn⟩,⟨@mfCall_yield,@newF_some⟩⟩,⟨⟨@addrF_bptr,@addrF_ptr⟩,⟨@addrF_rop,⟨@slF_int,@slF_bool⟩⟩⟩⟩⟩,⟨⟨⟨⟨@slF_str,@slF_agg⟩,⟨@slF_vs,@slF_gsl⟩⟩,⟨⟨@slF_nils,@slF_nilf⟩,⟨@slF_nili,@slF_nilp⟩⟩⟩,⟨⟨⟨@slF_fn,@slF_iface⟩,⟨@slF_rop,@slF0_int⟩⟩,⟨⟨@slF0_bool,@slF0_str⟩,⟨@slF0_vs,⟨@slF0_gsl,@slF0_nils⟩⟩⟩⟩⟩⟩⟩⟩,⟨⟨⟨⟨⟨⟨⟨@slF0_nilf,@slF0_nili⟩,⟨@slF0_nilp,@slF0_fn⟩⟩,⟨⟨@slF0_iface,@slF0_rop⟩,⟨@slF0_agg,@appF_gsl⟩⟩⟩,⟨⟨⟨@appF_nils,@appF_vs⟩,⟨@both_mk,@op_move⟩⟩,⟨⟨@op_assign,@op_pick⟩,⟨@op_build,@op_bin⟩⟩⟩⟩,⟨⟨⟨⟨@op_un,@op_convert⟩,⟨@op_fieldAddr,@op_field⟩⟩,⟨⟨@op_index,@op_indexAddr⟩,⟨@op_slice,@op_extract⟩⟩⟩,⟨⟨⟨@op_load,@op_store⟩,⟨@op_box,@op_alloc⟩⟩,⟨⟨@op_buildSlice,@op_makeSlice⟩,⟨@op_makeMap,⟨@op_lookup,@op_mapUpdate⟩⟩⟩⟩⟩⟩,⟨⟨⟨⟨⟨@op_makeInterface,@op_makeFunc⟩,⟨@op_len,@op_max⟩⟩,⟨⟨@op_min,@op_recover⟩,⟨@opw_panic,@opw_defer⟩⟩⟩,⟨⟨⟨@op_append,@op_call⟩,⟨@valO_some,@valO_none⟩⟩,⟨⟨@valO_ite,@pickK_true⟩,⟨@pickK_false,⟨@pickK_dec,@buildK_some⟩⟩⟩⟩⟩,⟨⟨⟨⟨@aggO_some,@fillPV_nil⟩,⟨@fillPV_cons,@fillK_some⟩⟩,⟨⟨@fillS_some,@fillT_some⟩,⟨@fAddrK_bptr,@fAddrK_ptr⟩⟩⟩,⟨⟨⟨@fAddrK_rop,@fieldK_agg⟩,⟨@partK_agg,@partK_one⟩⟩,⟨⟨@xAddrK_slice,@xAddrK_arr⟩,⟨@rowC_some,⟨@iAddrK_vs,@iAddrK_gsl⟩⟩⟩⟩⟩⟩⟩,⟨⟨⟨⟨⟨⟨@iAddrK_nils,@aAddrK_bptr⟩,⟨@aAddrK_ptr,@aAddrK_rop⟩⟩,⟨⟨@idx_int,@loadK_agg⟩,⟨@loadK_one,@nvK_some⟩⟩⟩,⟨⟨⟨@nextVer_none,@nextVer_some⟩,⟨@newVar_some,@allocK_some⟩⟩,⟨⟨@accNv_some,@accK_some⟩,⟨@accK2_some,⟨@extrK_tup,@extrK_ite⟩⟩⟩⟩⟩,⟨⟨⟨⟨@convK_int,@bslE_some⟩,⟨@bslK_some,@bslF_t⟩⟩,⟨⟨@bslF_f,@fillSl_nil⟩,⟨@fillSl_cons,@lookE_some⟩⟩⟩,⟨⟨⟨@lookZ_some,@lookX_map⟩,⟨@lookW_some,@lookF_some⟩⟩,⟨⟨@lookR_some,@lookR_none⟩,⟨@updE_some,⟨@updX_map,@updW_some⟩⟩⟩⟩⟩⟩,⟨⟨⟨⟨⟨@updG_some,@updF_some⟩,⟨@mslE_some,@mslK_some⟩⟩,⟨⟨@appE_some,@appK_some⟩,⟨@appF2_some,@elemsOf_nils⟩⟩⟩,⟨⟨⟨@elemsOf_vs,@elemsOf_gsl⟩,⟨@appendV_gsl,@appG_some⟩⟩,⟨⟨@appendV_nils,@appendV_vs⟩,⟨@lenK_vs,⟨@lenK_gsl,@lenK_nils⟩⟩⟩⟩⟩,⟨⟨⟨⟨@lenK_str,@recK_no⟩,⟨@recK_pan,@panK_iface⟩⟩,⟨⟨@defK_fn,@idxK_some⟩,⟨@idxK_none,@byteO_some⟩⟩⟩,⟨⟨⟨@strK_str,@strK_agg⟩,⟨@sliceK_some,@optIdx_none⟩⟩,⟨⟨@optIdx_some,@someO_some⟩,⟨@slicePV_vs,⟨@slicePV_gsl,@apK_ret⟩⟩⟩⟩⟩⟩⟩⟩⟩,⟨⟨⟨⟨⟨⟨⟨⟨@apK_pan,@apK_ite⟩,⟨@cfK_ret,@cfK_pan⟩⟩,⟨⟨@cfK_ite,@callV_fn⟩,⟨@callV_yield,@callK_iso⟩⟩⟩,⟨⟨⟨@callK_in,@argK_mk⟩,⟨@freezeArgs_nil,@freezeArgs_cons⟩⟩,⟨⟨@consA_mk,@consB_mk⟩,⟨@freezeArg_bool,@freezeArg_int⟩⟩⟩⟩,⟨⟨⟨⟨@freezeArg_str,@freezeArg_nilp⟩,⟨@freezeArg_nilf,@freezeArg_nili⟩⟩,⟨⟨@freezeArg_nils,@aggA_mk⟩,⟨@freezeArg_agg,@freezeArg_vs⟩⟩⟩,⟨⟨⟨@freezeArg_fn,@freezeArg_rop⟩,⟨@freezeArg_iface,@freezeArg_gsl⟩⟩,⟨⟨@frzK_some,@freezeArgs0_nil⟩,⟨@freezeArgs0_cons,⟨@consC_mk,@freezeArg0_bool⟩⟩⟩⟩⟩⟩,⟨⟨⟨⟨⟨@freezeArg0_int,@freezeArg0_str⟩,⟨@freezeArg0_nilp,@freezeArg0_nilf⟩⟩,⟨⟨@freezeArg0_nili,@freezeArg0_nils⟩,⟨@freezeArg0_agg,@freezeArg0_vs⟩⟩⟩,⟨⟨⟨@freezeArg0_fn,@freezeArg0_rop⟩,⟨@freezeArg0_iface,@freezeArg0_gsl⟩⟩,⟨⟨@strip0L_nil,@strip0L_cons⟩,⟨@strip0_bool,⟨@strip0_int,@strip0_str⟩⟩⟩⟩⟩,⟨⟨⟨⟨@strip0_nilp,@strip0_nilf⟩,⟨@strip0_nili,@strip0_nils⟩⟩,⟨⟨@strip0_agg,@strip0_vs⟩,⟨@strip0_fn,@strip0_iface⟩⟩⟩,⟨⟨⟨@vsO_some,@strip1L_nil⟩,⟨@strip1L_cons,@strip2L_nil⟩⟩,⟨⟨@strip2L_cons,@strip1_bool⟩,⟨@strip1_int,⟨@strip1_nils,@strip1_agg⟩⟩⟩⟩⟩⟩⟩,⟨⟨⟨⟨⟨⟨@strip1_vs,@strip1_gsl⟩,⟨@strip2_bool,@strip2_int⟩⟩,⟨⟨@strip2_str,@strip2_nilp⟩,⟨@strip2_nilf,@strip2_nili⟩⟩⟩,⟨⟨⟨@strip2_nils,@strip2_agg⟩,⟨@strip2_tup,@strip2_vs⟩⟩,⟨⟨@strip2_fn,@strip2_iface⟩,⟨@strip2_gsl,⟨@rowEs_K,@rowEsK_some⟩⟩⟩⟩⟩,⟨⟨⟨⟨@cellsD_some,@getAt_bptr⟩,⟨@getAt_ptr,@getAt_rop⟩⟩,⟨⟨@boxAt_some,@rowAt_some⟩,⟨@putBS_some,@putRS_some⟩⟩⟩,⟨⟨⟨@putRE_some,@storeK_bptr⟩,⟨@putBox_some,@storeK_ptr⟩⟩,⟨⟨@putRow_some,@splice_eq⟩,⟨@reCell_agg,⟨@reCell_int,@reCell_bool⟩⟩⟩⟩⟩⟩,⟨⟨⟨⟨⟨@reCell_gsl,@reCell_vs⟩,⟨@reCell_nils,@reCell_nilm⟩⟩,⟨⟨@reCell_map,@reCell_nilf⟩,⟨@reCell_fn,@heap_set_rows⟩⟩⟩,⟨⟨⟨@heap_set_next,@heap_add_rows⟩,⟨@heap_add_next,@bin_add⟩⟩,⟨⟨@bin_sub,@bin_mul⟩,⟨@bin_quo,⟨@bin_rem,@bin_shl⟩⟩⟩⟩⟩,⟨⟨⟨⟨@bin_shr,@bin_and⟩,⟨@bin_or,@bin_eql⟩⟩,⟨⟨@bin_neq,@bin_lss⟩,⟨@bin_leq,@bin_gtr⟩⟩⟩,⟨⟨⟨@bin_geq,@un_neg⟩,⟨@un_not,@un_not_true⟩⟩,⟨⟨@un_not_false,@bin_eql_bool⟩,⟨@bin_neq_bool,⟨@eqBK_bool,@boolO_some⟩⟩⟩⟩⟩⟩⟩⟩,⟨⟨⟨⟨⟨⟨⟨@notO_some,@fold_max2⟩,⟨@fold_min2,@fold_max3⟩⟩,⟨⟨@ofV_int,@ofV_bool⟩,⟨@ofV_str,@ofV_nilf⟩⟩⟩,⟨⟨⟨@ofV_nili,@ofV_nilp⟩,⟨@ofV_nils,@ofV_nilm⟩⟩,⟨⟨@fits_int,@fits_bool⟩,⟨@fits_str,@fits_agg⟩⟩⟩⟩,⟨⟨⟨⟨@fits_vs,@fits_gsl⟩,⟨@fits_nils,@fits_nilm⟩⟩,⟨⟨@fits_map,@fits_nilf⟩,⟨@fits_nili,@fits_nilp⟩⟩⟩,⟨⟨⟨@fits_fn,@fits_bptr⟩,⟨@fits_ptr,@fits_iface⟩⟩,⟨⟨@cells_int,@cells_bool⟩,⟨@cells_str,⟨@cells_agg,@cells_vs⟩⟩⟩⟩⟩⟩,⟨⟨⟨⟨⟨@cells_gsl,@cells_nils⟩,⟨@cells_nilm,@cells_map⟩⟩,⟨⟨@cells_nilf,@cells_nili⟩,⟨@cells_fn,@cells_ptr⟩⟩⟩,⟨⟨⟨@isNils_int,@isNils_bool⟩,⟨@isNils_str,@isNils_agg⟩⟩,⟨⟨@isNils_vs,@isNils_gsl⟩,⟨@isNils_nils,⟨@isNils_nilm,@isNils_map⟩⟩⟩⟩⟩,⟨⟨⟨⟨@isNils_nilf,@isNils_nili⟩,⟨@isNils_fn,@dstIn_nil⟩⟩,⟨⟨@dstIn_none,@dstIn_some⟩,⟨@upd_tm,@tm_apply⟩⟩⟩,⟨⟨⟨@tmK_some,@tmK_none⟩,⟨@look_lf,@look_no0⟩⟩,⟨⟨@look_nd0,@look_no_t⟩,⟨@look_no_f,⟨@look_nd_t,@look_nd_f⟩⟩⟩⟩⟩⟩⟩,⟨⟨⟨⟨⟨⟨@ins_lf0,@ins_no0⟩,⟨@ins_nd0,@ins_lf_t⟩⟩,⟨⟨@ins_lf_f,@ins_no_t⟩,⟨@ins_no_f,@ins_nd_t⟩⟩⟩,⟨⟨⟨@ins_nd_f,@start_tm⟩,⟨@endF_none,@endF_normal⟩⟩,⟨⟨@endF_ret,@endF_pan⟩,⟨@endF_ite,⟨@endK_none,@endK_pan⟩⟩⟩⟩⟩,⟨⟨⟨⟨@resK_some,@resK_ite⟩,⟨@apE_none,@apE_ret⟩⟩,⟨⟨@apE_pan,@apE_ite⟩,⟨@resPV_nil,@resPV_cons⟩⟩⟩,⟨⟨⟨@res1_tmp,@res1_cell⟩,⟨@ldO_agg,@ldO_one⟩⟩,⟨⟨@consO_some,@tupPV_1⟩,⟨@tupPV_0,⟨@tupPV_2,@G_eq⟩⟩⟩⟩⟩⟩,⟨⟨⟨⟨⟨@codeOK_region,@codeOK_seq⟩,⟨@codeOK_cond,@codeOK_block⟩⟩,⟨⟨@codeOK_loop,@codeOK_skip⟩,⟨@codeOK_ret,@codeOK_exit⟩⟩⟩,⟨⟨⟨@codeOK_label,@codeOK_range⟩,⟨@WW_range,@rangeK_none⟩⟩,⟨⟨@rngC_eq,@rngK_ret⟩,⟨@rngR_ready,⟨@rngR_ret,@rngR_exit⟩⟩⟩⟩⟩,⟨⟨⟨⟨@yieldF_eq,@yK_ready⟩,⟨@yT_some,@yA_normal⟩⟩,⟨⟨@yB_ready,@yE_some⟩,⟨@yE_ite,@yE2_normal⟩⟩⟩,⟨⟨⟨@yE2_ret,@yE2_exit⟩,⟨@putPs_nil,@putPs_cons⟩⟩,⟨⟨@endK_coll,@endC_dfr⟩,⟨@upd_apply,⟨@dstAt_eq,@endK_nd⟩⟩⟩⟩⟩⟩⟩⟩⟩⟩
theorem PATHS : ((((((((path 0 = [] ∧ (path 1 = [false] ∧ path 2 = [true])) ∧ (path 3 = [false,false] ∧ (path 4 = [true,false] ∧ path 5 = [false,true]))) ∧ ((path 6 = [true,true] ∧ (path 7 = [false,false,false] ∧ path 8 = [true,false,false])) ∧ ((path 9 = [false,true,false] ∧ path 10 = [true,true,false]) ∧ (path 11 = [false,false,true] ∧ path 12 = [true,false,true])))) ∧ (((path 13 = [false,true,true] ∧ (path 14 = [true,true,true] ∧ path 15 = [false,false,false,false])) ∧ (path 16 = [true,false,false,false] ∧ (path 17 = [false,true,false,false] ∧ path 18 = [true,true,false,false]))) ∧ ((path 19 = [false,false,true,false] ∧ (path 20 = [true,false,true,false] ∧ path 21 = [false,true,true,false])) ∧ ((path 22 = [true,true,true,false] ∧ path 23 = [false,false,false,true]) ∧ (path 24 = [true,false,false,true] ∧ path 25 = [false,true,false,true]))))) ∧ ((((path 26 = [true,true,false,true] ∧ (path 27 = [false,false,true,true] ∧ path 28 = [true,false,true,true])) ∧ (path 29 = [false,true,true,true] ∧ (path 30 = [true,true,true,true] ∧ path 31 = [false,false,false,false,false]))) ∧ ((path 32 = [true,false,false,false,false] ∧ (path 33 = [false,true,false,false,false] ∧ path 34 = [true,true,false,false,false])) ∧ ((path 35 = [false,false,true,false,false] ∧ path 36 = [true,false,true,false,false]) ∧ (path 37 = [false,true,true,false,false] ∧ path 38 = [true,true,true,false,false])))) ∧ (((path 39 = [false,false,false,true,false] ∧ (path 40 = [true,false,false,true,false] ∧ path 41 = [false,true,false,true,false])) ∧ (path 42 = [true,true,false,true,false] ∧ (path 43 = [false,false,true,true,false] ∧ path 44 = [true,false,true,true,false]))) ∧ ((path 45 = [false,true,true,true,false] ∧ (path 46 = [true,true,true,true,false] ∧ path 47 = [false,false,false,false,true])) ∧ ((path 48 = [true,false,false,false,true] ∧ path 49 = [false,true,false,false,true]) ∧ (path 50 = [true,true,false,false,true] ∧ path 51 = [false,false,true,false,true])))))) ∧ (((((path 52 = [true,false,true,false,true] ∧ (path 53 = [false,true,true,false,true] ∧ path 54 = [true,true,true,false,true])) ∧ (path 55 = [false,false,false,true,true] ∧ (path 56 = [true,false,false,true,true] ∧ path 57 = [false,true,false,true,true]))) ∧ ((path 58 = [true,true,false,true,true] ∧ (path 59 = [false,false,true,true,true] ∧ path 60 = [true,false,true,true,true])) ∧ ((path 61 = [false,true,true,true,true] ∧ path 62 = [true,true,true,true,true]) ∧ (path 63 = [false,false,false,false,false,false] ∧ path 64 = [true,false,false,false,false,false])))) ∧ (((path 65 = [false,true,false,false,false,false] ∧ (path 66 = [true,true,false,false,false,false] ∧ path 67 = [false,false,true,false,false,false])) ∧ (path 68 = [true,false,true,false,false,false] ∧ (path 69 = [false,true,true,false,false,false] ∧ path 70 = [true,true,true,false,false,false]))) ∧ ((path 71 = [false,false,false,true,false,false] ∧ (path 72 = [true,false,false,true,false,false] ∧ path 73 = [false,true,false,true,false,false])) ∧ ((path 74 = [true,true,false,true,false,false] ∧ path 75 = [false,false,true,true,false,false]) ∧ (path 76 = [true,false,true,true,false,false] ∧ path 77 = [false,true,true,true,false,false]))))) ∧ ((((path 78 = [true,true,true,true,false,false] ∧ (path 79 = [false,false,false,false,true,false] ∧ path 80 = [true,false,false,false,true,false])) ∧ (path 81 = [false,true,false,false,true,false] ∧ (path 82 = [true,true,false,false,true,false] ∧ path 83 = [false,false,true,false,true,false]))) ∧ ((path 84 = [true,false,true,false,true,false] ∧ (path 85 = [false,true,true,false,true,false] ∧ path 86 = [true,true,true,false,true,false])) ∧ ((path 87 = [false,false,false,true,true,false] ∧ path 88 = [true,false,false,true,true,false]) ∧ (path 89 = [false,true,false,true,true,false] ∧ path 90 = [true,true,false,true,true,false])))) ∧ (((path 91 = [false,false,true,true,true,false] ∧ (path 92 = [true,false,true,true,true,false] ∧ path 93 = [false,true,true,true,true,false])) ∧ ((path 94 = [true,true,true,true,true,false] ∧ path 95 = [false,false,false,false,false,true]) ∧ (path 96 = [true,false,false,false,false,true] ∧ path 97 = [false,true,false,false,false,true]))) ∧ ((path 98 = [true,true,false,false,false,true] ∧ (path 99 = [false,false,true,false,false,true] ∧ path 100 = [true,false,true,false,false,true])) ∧ ((path 101 = [false,true,true,false,false,true] ∧ path 102 = [true,true,true,false,false,true]) ∧ (path 103 = [false,false,false,true,false,true] ∧ path 104 = [true,false,false,true,false,true]))))))) ∧ ((((((path 105 = [false,true,false,true,false,true] ∧ (path 106 = [true,true,false,true,false,true] ∧ path 107 = [false,false,true,true,false,true])) ∧ (path 108 = [true,false,true,true,false,true] ∧ (path 109 = [false,true,true,true,false,true] ∧ path 110 = [true,true,true,true,false,true]))) ∧ ((path 111 = [false,false,false,false,true,true] ∧ (path 112 = [true,false,false,false,true,true] ∧ path 113 = [false,true,false,false,true,true])) ∧ ((path 114 = [true,true,false,false,true,true] ∧ path 115 = [false,false,true,false,true,true]) ∧ (path 116 = [true,false,true,false,true,true] ∧ path 117 = [false,true,true,false,true,true])))) ∧ (((path 118 = [true,true,true,false,true,true] ∧ (path 119 = [false,false,false,true,true,true] ∧ path 120 = [true,false,false,true,true,true])) ∧ (path 121 = [false,true,false,true,true,true] ∧ (path 122 = [true,true,false,true,true,true] ∧ path 123 = [false,false,true,true,true,true]))) ∧ ((path 124 = [true,false,true,true,true,true] ∧ (path 125 = [false,true,true,true,true,true] ∧ path 126 = [true,true,true,true,true,true])) ∧ ((path 127 = [false,false,false,false,false,false,false] ∧ path 128 = [true,false,false,false,false,false,false]) ∧ (path 129 = [false,true,false,false,false,false,false] ∧ path 130 = [true,true,false,false,false,false,false]))))) ∧ ((((path 131 = [false,false,true,false,false,false,false] ∧ (path 132 = [true,false,true,false,false,false,false] ∧ path 133 = [false,true,true,false,false,false,false])) ∧ (path 134 = [true,true,true,false,false,false,false] ∧ (path 135 = [false,false,false,true,false,false,false] ∧ path 136 = [true,false,false,true,false,false,false]))) ∧ ((path 137 = [false,true,false,true,false,false,false] ∧ (path 138 = [true,true,false,true,false,false,false] ∧ path 139 = [false,false,true,true,false,false,false])) ∧ ((path 140 = [true,false,true,true,false,false,false] ∧ path 141 = [false,true,true,true,false,false,false]) ∧ (path 142 = [true,true,true,true,false,false,false] ∧ path 143 = [false,false,false,false,true,false,false])))) ∧ (((path 144 = [true,false,false,false,true,false,false] ∧ (path 145 = [false,true,false,false,true,false,false] ∧ path 146 = [true,true,false,false,true,false,false])) ∧ (path 147 = [false,false,true,false,true,false,false] ∧ (path 148 = [true,false,true,false,true,false,false] ∧ path 149 = [false,true,true,false,true,false,false]))) ∧ ((path 150 = [true,true,true,false,true,false,false] ∧ (path 151 = [false,false,false,true,true,false,false] ∧ path 152 = [true,false,false,true,true,false,false])) ∧ ((path 153 = [false,true,false,true,true,false,false] ∧ path 154 = [true,true,false,true,true,false,false]) ∧ (path 155 = [false,false,true,true,true,false,false] ∧ path 156 = [true,false,true,true,true,false,false])))))) ∧ (((((path 157 = [false,true,true,true,true,false,false] ∧ (path 158 = [true,true,true,true,true,false,false] ∧ path 159 = [false,false,false,false,false,true,false])) ∧ (path 160 = [true,false,false,false,false,true,false] ∧ (path 161 = [false,true,false,false,false,true,false] ∧ path 162 = [true,true,false,false,false,true,false]))) ∧ ((path 163 = [false,false,true,false,false,true,false] ∧ (path 164 = [true,false,true,false,false,true,false] ∧ path 165 = [false,true,true,false,false,true,false])) ∧ ((path 166 = [true,true,true,false,false,true,false] ∧ path 167 = [false,false,false,true,false,true,false]) ∧ (path 168 = [true,false,false,true,false,true,false] ∧ path 169 = [false,true,false,true,false,true,false])))) ∧ (((path 170 = [true,true,false,true,false,true,false] ∧ (path 171 = [false,false,true,true,false,true,false] ∧ path 172 = [true,false,true,true,false,true,false])) ∧ (path 173 = [false,true,true,true,false,true,false] ∧ (path 174 = [true,true,true,true,false,true,false] ∧ path 175 = [false,false,false,false,true,true,false]))) ∧ ((path 176 = [true,false,false,false,true,true,false] ∧ (path 177 = [false,true,false,false,true,true,false] ∧ path 178 = [true,true,false,false,true,true,false])) ∧ ((path 179 = [false,false,true,false,true,true,false] ∧ path 180 = [true,false,true,false,true,true,false]) ∧ (path 181 = [false,true,true,false,true,true,false] ∧ path 182 = [true,true,true,false,true,true,false]))))) ∧ ((((path 183 = [false,false,false,true,true,true,false] ∧ (path 184 = [true,false,false,true,true,true,false] ∧ path 185 = [false,true,false,true,true,true,false])) ∧ (path 186 = [true,true,false,true,true,true,false] ∧ (path 187 = [false,false,true,true,true,true,false] ∧ path 188 = [true,false,true,true,true,true,false]))) ∧ ((path 189 = [false,true,true,true,true,true,false] ∧ (path 190 = [true,true,true,true,true,true,false] ∧ path 191 = [false,false,false,false,false,false,true])) ∧ ((path 192 = [true,false,false,false,false,false,true] ∧ path 193 = [false,true,false,false,false,false,true]) ∧ (path 194 = [true,true,false,false,false,false,true] ∧ path 195 = [false,false,true,false,false,false,true])))) ∧ (((path 196 = [true,false,true,false,false,false,true] ∧ (path 197 = [false,true,true,false,false,false,true] ∧ path 198 = [true,true,true,false,false,false,true])) ∧ ((path 199 = [false,false,false,true,false,false,true] ∧ path 200 = [true,false,false,true,false,false,true]) ∧ (path 201 = [false,true,false,true,false,false,true] ∧ path 202 = [true,true,false,true,false,false,true]))) ∧ ((path 203 = [false,false,true,true,false,false,true] ∧ (path 204 = [true,false,true,true,false,false,true] ∧ path 205 = [false,true,true,true,false,false,true])) ∧ ((path 206 = [true,true,true,true,false,false,true] ∧ path 207 = [false,false,false,false,true,false,true]) ∧ (path 208 = [true,false,false,false,true,false,true] ∧ path 209 = [false,true,false,false,true,false,true])))))))) ∧ (((((((path 210 = [true,true,false,false,true,false,true] ∧ (path 211 = [false,false,true,false,true,false,true] ∧ path 212 = [true,false,true,false,true,false,true])) ∧ (path 213 = [false,true,true,false,true,false,true] ∧ (path 214 = [true,true,true,false,true,false,true] ∧ path 215 = [false,false,false,true,true,false,true]))) ∧ ((path 216 = [true,false,false,true,true,false,true] ∧ (path 217 = [false,true,false,true,true,false,true] ∧ path 218 = [true,true,false,true,true,false,true])) ∧ ((path 219 = [false,false,true,true,true,false,true] ∧ path 220 = [true,false,true,true,true,false,true]) ∧ (path 221 = [false,true,true,true,true,false,true] ∧ path 222 = [true,true,true,true,true,false,true])))) ∧ (((path 223 = [false,false,false,false,false,true,true] ∧ (path 224 = [true,false,false,false,false,true,true] ∧ path 225 = [false,true,false,false,false,true,true])) ∧ (path 226 = [true,true,false,false,false,true,true] ∧ (path 227 = [false,false,true,false,false,true,true] ∧ path 228 = [true,false,true,false,false,true,true]))) ∧ ((path 229 = [false,true,true,false,false,true,true] ∧ (path 230 = [true,true,true,false,false,true,true] ∧ path 231 = [false,false,false,true,false,true,true])) ∧ ((path 232 = [true,false,false,true,false,true,true] ∧ path 233 = [false,true,false,true,false,true,true]) ∧ (path 234 = [true,true,false,true,false,true,true] ∧ path 235 = [false,false,true,true,false,true,true]))))) ∧ ((((path 236 = [true,false,true,true,false,true,true] ∧ (path 237 = [false,true,true,true,false,true,true] ∧ path 238 = [true,true,true,true,false,true,true])) ∧ (path 239 = [false,false,false,false,true,true,true] ∧ (path 240 = [true,false,false,false,true,true,true] ∧ path 241 = [false,true,false,false,true,true,true]))) ∧ ((path 242 = [true,true,false,false,true,true,true] ∧ (path 243 = [false,false,true,false,true,true,true] ∧ path 244 = [true,false,true,false,true,true,true])) ∧ ((path 245 = [false,true,true,false,true,true,true] ∧ path 246 = [true,true,true,false,true,true,true]) ∧ (path 247 = [false,false,false,true,true,true,true] ∧ path 248 = [true,false,false,true,true,true,true])))) ∧ (((path 249 = [false,true,false,true,true,true,true] ∧ (path 250 = [true,true,false,true,true,true,true] ∧ path 251 = [false,false,true,true,true,true,true])) ∧ (path 252 = [true,false,true,true,true,true,true] ∧ (path 253 = [false,true,true,true,true,true,true] ∧ path 254 = [true,true,true,true,true,true,true]))) ∧ ((path 255 = [false,false,false,false,false,false,false,false] ∧ (path 256 = [true,false,false,false,false,false,false,false] ∧ path 257 = [false,true,false,false,false,false,false,false])) ∧ ((path 258 = [true,true,false,false,false,false,false,false] ∧ path 259 = [false,false,true,false,false,false,false,false]) ∧ (path 260 = [true,false,true,false,false,false,false,false] ∧ path 261 = [false,true,true,false,false,false,false,false])))))) ∧ (((((path 262 = [true,true,true,false,false,false,false,false] ∧ (path 263 = [false,false,false,true,false,false,false,false] ∧ path 264 = [true,false,false,true,false,false,false,false])) ∧ (path 265 = [false,true,false,true,false,false,false,false] ∧ (path 266 = [true,true,false,true,false,false,false,false] ∧ path 267 = [false,false,true,true,false,false,false,false]))) ∧ ((path 268 = [true,false,true,true,false,false,false,false] ∧ (path 269 = [false,true,true,true,false,false,false,false] ∧ path 270 = [true,true,true,true,false,false,false,false])) ∧ ((path 271 = [false,false,false,false,true,false,false,false] ∧ path 272 = [true,false,false,false,true,false,false,false]) ∧ (path 273 = [false,true,false,false,true,false,false,false] ∧ path 274 = [true,true,false,false,true,false,false,false])))) ∧ (((path 275 = [false,false,true,false,true,false,false,false] ∧ (path 276 = [true,false,true,false,true,false,false,false] ∧ path 277 = [false,true,true,false,true,false,false,false])) ∧ (path 278 = [true,true,true,false,true,false,false,false] ∧ (path 279 = [false,false,false,true,true,false,false,false] ∧ path 280 = [true,false,false,true,true,false,false,false]))) ∧ ((path 281 = [false,true,false,true,true,false,false,false] ∧ (path 282 = [true,true,false,true,true,false,false,false] ∧ path 283 = [false,false,true,true,true,false,false,false])) ∧ ((path 284 = [true,false,true,true,true,false,false,false] ∧ path 285 = [false,true,true,true,true,false,false,false]) ∧ (path 286 = [true,true,true,true,true,false,false,false] ∧ path 287 = [false,false,false,false,false,true,false,false]))))) ∧ ((((path 288 = [true,false,false,false,false,true,false,false] ∧ (path 289 = [false,true,false,false,false,true,false,false] ∧ path 290 = [true,true,false,false,false,true,false,false])) ∧ (path 291 = [false,false,true,false,false,true,false,false] ∧ (path 292 = [true,false,true,false,false,true,false,false] ∧ path 293 = [false,true,true,false,false,true,false,false]))) ∧ ((path 294 = [true,true,true,false,false,true,false,false] ∧ (path 295 = [false,false,false,true,false,true,false,false] ∧ path 296 = [true,false,false,true,false,true,false,false])) ∧ ((path 297 = [false,true,false,true,false,true,false,false] ∧ path 298 = [true,true,false,true,false,true,false,false]) ∧ (path 299 = [false,false,true,true,false,true,false,false] ∧ path 300 = [true,false,true,true,false,true,false,false])))) ∧ (((path 301 = [false,true,true,true,false,true,false,false] ∧ (path 302 = [true,true,true,true,false,true,false,false] ∧ path 303 = [false,false,false,false,true,true,false,false])) ∧ ((path 304 = [true,false,false,false,true,true,false,false] ∧ path 305 = [false,true,false,false,true,true,false,false]) ∧ (path 306 = [true,true,false,false,true,true,false,false] ∧ path 307 = [false,false,true,false,true,true,false,false]))) ∧ ((path 308 = [true,false,true,false,true,true,false,false] ∧ (path 309 = [false,true,true,false,true,true,false,false] ∧ path 310 = [true,true,true,false,true,true,false,false])) ∧ ((path 311 = [false,false,false,true,true,true,false,false] ∧ path 312 = [true,false,false,true,true,true,false,false]) ∧ (path 313 = [false,true,false,true,true,true,false,false] ∧ path 314 = [true,true,false,true,true,true,false,false]))))))) ∧ ((((((path 315 = [false,false,true,true,true,true,false,false] ∧ (path 316 = [true,false,true,true,true,true,false,false] ∧ path 317 = [false,true,true,true,true,true,false,false])) ∧ (path 318 = [true,true,true,true,true,true,false,false] ∧ (path 319 = [false,false,false,false,false,false,true,false] ∧ path 320 = [true,false,false,false,false,false,true,false]))) ∧ ((path 321 = [false,true,false,false,false,false,true,false] ∧ (path 322 = [true,true,false,false,false,false,true,false] ∧ path 323 = [false,false,true,false,false,false,true,false])) ∧ ((path 324 = [true,false,true,false,false,false,true,false] ∧ path 325 = [false,true,true,false,false,false,true,false]) ∧ (path 326 = [true,true,true,false,false,false,true,false] ∧ path 327 = [false,false,false,true,false,false,true,false])))) ∧ (((path 328 = [true,false,false,true,false,false,true,false] ∧ (path 329 = [false,true,false,true,false,false,true,false] ∧ path 330 = [true,true,false,true,false,false,true,false])) ∧ (path 331 = [false,false,true,true,false,false,true,false] ∧ (path 332 = [true,false,true,true,false,false,true,false] ∧ path 333 = [false,true,true,true,false,false,true,false]))) ∧ ((path 334 = [true,true,true,true,false,false,true,false] ∧ (path 335 = [false,false,false,false,true,false,true,false] ∧ path 336 = [true,false,false,false,true,false,true,false])) ∧ ((path 337 = [false,true,false,false,true,false,true,false] ∧ path 338 = [true,true,false,false,true,false,true,false]) ∧ (path 339 = [false,false,true,false,true,false,true,false] ∧ path 340 = [true,false,true,false,true,false,true,false]))))) ∧ ((((path 341 = [false,true,true,false,true,false,true,false] ∧ (path 342 = [true,true,true,false,true,false,true,false] ∧ path 343 = [false,false,false,true,true,false,true,false])) ∧ (path 344 = [true,false,false,true,true,false,true,false] ∧ (path 345 = [false,true,false,true,true,false,true,false] ∧ path 346 = [true,true,false,true,true,false,true,false]))) ∧ ((path 347 = [false,false,true,true,true,false,true,false] ∧ (path 348 = [true,false,true,true,true,false,true,false] ∧ path 349 = [false,true,true,true,true,false,true,false])) ∧ ((path 350 = [true,true,true,true,true,false,true,false] ∧ path 351 = [false,false,false,false,false,true,true,false]) ∧ (path 352 = [true,false,false,false,false,true,true,false] ∧ path 353 = [false,true,false,false,false,true,true,false])))) ∧ (((path 354 = [true,true,false,false,false,true,true,false] ∧ (path 355 = [false,false,true,false,false,true,true,false] ∧ path 356 = [true,false,true,false,false,true,true,false])) ∧ (path 357 = [false,true,true,false,false,true,true,false] ∧ (path 358 = [true,true,true,false,false,true,true,false] ∧ path 359 = [false,false,false,true,false,true,true,false]))) ∧ ((path 360 = [true,false,false,true,false,true,true,false] ∧ (path 361 = [false,true,false,true,false,true,true,false] ∧ path 362 = [true,true,false,true,false,true,true,false])) ∧ ((path 363 = [false,false,true,true,false,true,true,false] ∧ path 364 = [true,false,true,true,false,true,true,false]) ∧ (path 365 = [false,true,true,true,false,true,true,false] ∧ path 366 = [true,true,true,true,false,true,true,false])))))) ∧ (((((path 367 = [false,false,false,false,true,true,true,false] ∧ (path 368 = [true,false,false,false,true,true,true,false] ∧ path 369 = [false,true,false,false,true,true,true,false])) ∧ (path 370 = [true,true,false,false,true,true,true,false] ∧ (path 371 = [false,false,true,false,true,true,true,false] ∧ path 372 = [true,false,true,false,true,true,true,false]))) ∧ ((path 373 = [false,true,true,false,true,true,true,false] ∧ (path 374 = [true,true,true,false,true,true,true,false] ∧ path 375 = [false,false,false,true,true,true,true,false])) ∧ ((path 376 = [true,false,false,true,true,true,true,false] ∧ path 377 = [false,true,false,true,true,true,true,false]) ∧ (path 378 = [true,true,false,true,true,true,true,false] ∧ path 379 = [false,false,true,true,true,true,true,false])))) ∧ (((path 380 = [true,false,true,true,true,true,true,false] ∧ (path 381 = [false,true,true,true,true,true,true,false] ∧ path 382 = [true,true,true,true,true,true,true,false])) ∧ (path 383 = [false,false,false,false,false,false,false,true] ∧ (path 384 = [true,false,false,false,false,false,false,true] ∧ path 385 = [false,true,false,false,false,false,false,true]))) ∧ ((path 386 = [true,true,false,false,false,false,false,true] ∧ (path 387 = [false,false,true,false,false,false,false,true] ∧ path 388 = [true,false,true,false,false,false,false,true])) ∧ ((path 389 = [false,true,true,false,false,false,false,true] ∧ path 390 = [true,true,true,false,false,false,false,true]) ∧ (path 391 = [false,false,false,true,false,false,false,true] ∧ path 392 = [true,false,false,true,false,false,false,true]))))) ∧ ((((path 393 = [false,true,false,true,false,false,false,true] ∧ (path 394 = [true,true,false,true,false,false,false,true] ∧ path 395 = [false,false,true,true,false,false,false,true])) ∧ (path 396 = [true,false,true,true,false,false,false,true] ∧ (path 397 = [false,true,true,true,false,false,false,true] ∧ path 398 = [true,true,true,true,false,false,false,true]))) ∧ ((path 399 = [false,false,false,false,true,false,false,true] ∧ (path 400 = [true,false,false,false,true,false,false,true] ∧ path 401 = [false,true,false,false,true,false,false,true])) ∧ ((path 402 = [true,true,false,false,true,false,false,true] ∧ path 403 = [false,false,true,false,true,false,false,true]) ∧ (path 404 = [true,false,true,false,true,false,false,true] ∧ path 405 = [false,true,true,false,true,false,false,true])))) ∧ (((path 406 = [true,true,true,false,true,false,false,true] ∧ (path 407 = [false,false,false,true,true,false,false,true] ∧ path 408 = [true,false,false,true,true,false,false,true])) ∧ ((path 409 = [false,true,false,true,true,false,false,true] ∧ path 410 = [true,true,false,true,true,false,false,true]) ∧ (path 411 = [false,false,true,true,true,false,false,true] ∧ path 412 = [true,false,true,true,true,false,false,true]))) ∧ ((path 413 = [false,true,true,true,true,false,false,true] ∧ (path 414 = [true,true,true,true,true,false,false,true] ∧ path 415 = [false,false,false,false,false,true,false,true])) ∧ ((path 416 = [true,false,false,false,false,true,false,true] ∧ path 417 = [false,true,false,false,false,true,false,true]) ∧ (path 418 = [true,true,false,false,false,true,false,true] ∧ path 419 = [false,false,true,false,false,true,false,true]))))))))):=
  ⟨⟨⟨⟨⟨⟨⟨⟨rfl,⟨rfl,rfl⟩⟩,⟨rfl,⟨rfl,rfl⟩⟩⟩,⟨⟨rfl,⟨rfl,rfl⟩⟩,⟨⟨rfl,rfl⟩,⟨rfl,rfl⟩⟩⟩⟩,⟨⟨⟨rfl,⟨rfl,rfl⟩⟩,⟨rfl,⟨rfl,rfl⟩⟩⟩,⟨⟨rfl,⟨rfl,rfl⟩⟩,⟨⟨rfl,rfl⟩,⟨rfl,rfl⟩⟩⟩⟩⟩,⟨⟨⟨⟨rfl,⟨rfl,rfl⟩⟩,⟨rfl,⟨rfl,rfl⟩⟩⟩,⟨⟨rfl,⟨rfl,rfl⟩⟩,⟨⟨rfl,rfl⟩,⟨rfl,rfl⟩⟩⟩⟩,⟨⟨⟨rfl,⟨rfl,rfl⟩⟩,⟨rfl,⟨rfl,rfl⟩⟩⟩,⟨⟨rfl,⟨rfl,rfl⟩⟩,⟨⟨rfl,rfl⟩,⟨rfl,rfl⟩⟩⟩⟩⟩⟩,⟨⟨⟨⟨⟨rfl,⟨rfl,rfl⟩⟩,⟨rfl,⟨rfl,rfl⟩⟩⟩,⟨⟨rfl,⟨rfl,rfl⟩⟩,⟨⟨rfl,rfl⟩,⟨rfl,rfl⟩⟩⟩⟩,⟨⟨⟨rfl,⟨rfl,rfl⟩⟩,⟨rfl,⟨rfl,rfl⟩⟩⟩,⟨⟨rfl,⟨rfl,rfl⟩⟩,⟨⟨rfl,rfl⟩,⟨rfl,rfl⟩⟩⟩⟩⟩,⟨⟨⟨⟨rfl,⟨rfl,rfl⟩⟩,⟨rfl,⟨rfl,rfl⟩⟩⟩,⟨⟨rfl,⟨rfl,rfl⟩⟩,⟨⟨rfl,rfl⟩,⟨rfl,rfl⟩⟩⟩⟩,⟨⟨⟨rfl,⟨rfl,rfl⟩⟩,⟨⟨rfl,rfl⟩,⟨rfl,rfl⟩⟩⟩,⟨⟨rfl,⟨rfl,rfl⟩⟩,⟨⟨rfl,rfl⟩,⟨rfl,rfl⟩⟩⟩⟩⟩⟩⟩,⟨⟨⟨⟨⟨⟨rfl,⟨rfl,rfl⟩⟩,⟨rfl,⟨rfl,rfl⟩⟩⟩,⟨⟨rfl,⟨rfl,rfl⟩⟩,⟨⟨rfl,rfl⟩,⟨rfl,rfl⟩⟩⟩⟩,⟨⟨⟨rfl,⟨rfl,rfl⟩⟩,⟨rfl,⟨rfl,rfl⟩⟩⟩,⟨⟨rfl,⟨rfl,rfl⟩⟩,⟨⟨rfl,rfl⟩,⟨rfl,rfl⟩⟩⟩⟩⟩,⟨⟨⟨⟨rfl,⟨rfl,rfl⟩⟩,⟨rfl,⟨rfl,rfl⟩⟩⟩,⟨⟨rfl,⟨rfl,rfl⟩⟩,⟨⟨rfl,rfl⟩,⟨rfl,rfl⟩⟩⟩⟩,⟨⟨⟨rfl,⟨rfl,rfl⟩⟩,⟨rfl,⟨rfl,rfl⟩⟩⟩,⟨⟨rfl,⟨rfl,rfl⟩⟩,⟨⟨rfl,rfl⟩,⟨rfl,rfl⟩⟩⟩⟩⟩⟩,⟨⟨⟨⟨⟨rfl,⟨rfl,rfl⟩⟩,⟨rfl,⟨rfl,rfl⟩⟩⟩,⟨⟨rfl,⟨rfl,rfl⟩⟩,⟨⟨rfl,rfl⟩,⟨rfl,rfl⟩⟩⟩⟩,⟨⟨⟨rfl,⟨rfl,rfl⟩⟩,⟨rfl,⟨rfl,rfl⟩⟩⟩,⟨⟨rfl,⟨rfl,rfl⟩⟩,⟨⟨rfl,rfl⟩,⟨rfl,rfl⟩⟩⟩⟩⟩,⟨⟨⟨⟨rfl,⟨rfl,rfl⟩⟩,⟨rfl,⟨rfl,rfl⟩⟩⟩,⟨⟨rfl,⟨rfl,rfl⟩⟩,⟨⟨rfl,rfl⟩,⟨rfl,rfl⟩⟩⟩⟩,⟨⟨⟨rfl,⟨rfl,rfl⟩⟩,⟨⟨rfl,rfl⟩,⟨rfl,rfl⟩⟩⟩,⟨⟨rfl,⟨rfl,rfl⟩⟩,⟨⟨rfl,rfl⟩,⟨rfl,rfl⟩⟩⟩⟩⟩⟩⟩⟩,⟨⟨⟨⟨⟨⟨⟨rfl,⟨rfl,rfl⟩⟩,⟨rfl,⟨rfl,rfl⟩⟩⟩,⟨⟨rfl,⟨rfl,rfl⟩⟩,⟨⟨rfl,rfl⟩,⟨rfl,rfl⟩⟩⟩⟩,⟨⟨⟨rfl,⟨rfl,rfl⟩⟩,⟨rfl,⟨rfl,rfl⟩⟩⟩,⟨⟨rfl,⟨rfl,rfl⟩⟩,⟨⟨rfl,rfl⟩,⟨rfl,rfl⟩⟩⟩⟩⟩,⟨⟨⟨⟨rfl,⟨rfl,rfl⟩⟩,⟨rfl,⟨rfl,rfl⟩⟩⟩,⟨⟨rfl,⟨rfl,rfl⟩⟩,⟨⟨rfl,rfl⟩,⟨rfl,rfl⟩⟩⟩⟩,⟨⟨⟨rfl,⟨rfl,rfl⟩⟩,⟨rfl,⟨rfl,rfl⟩⟩⟩,⟨⟨rfl,⟨rfl,rfl⟩⟩,⟨⟨rfl,rfl⟩,⟨rfl,rfl⟩⟩⟩⟩⟩⟩,⟨⟨⟨⟨⟨rfl,⟨rfl,rfl⟩⟩,⟨rfl,⟨rfl,rfl⟩⟩⟩,⟨⟨rfl,⟨rfl,rfl⟩⟩,⟨⟨rfl,rfl⟩,⟨rfl,rfl⟩⟩⟩⟩,⟨⟨⟨rfl,⟨rfl,rfl⟩⟩,⟨rfl,⟨rfl,rfl⟩⟩⟩,⟨⟨rfl,⟨rfl,rfl⟩⟩,⟨⟨rfl,rfl⟩,⟨rfl,rfl⟩⟩⟩⟩⟩,⟨⟨⟨⟨rfl,⟨rfl,rfl⟩⟩,⟨rfl,⟨rfl,rfl⟩⟩⟩,⟨⟨rfl,⟨rfl,rfl⟩⟩,⟨⟨rfl,rfl⟩,⟨rfl,rfl⟩⟩⟩⟩,⟨⟨⟨rfl,⟨rfl,rfl⟩⟩,⟨⟨rfl,rfl⟩,⟨rfl,rfl⟩⟩⟩,⟨⟨rfl,⟨rfl,rfl⟩⟩,⟨⟨rfl,rfl⟩,⟨rfl,rfl⟩⟩⟩⟩⟩⟩⟩,⟨⟨⟨⟨⟨⟨rfl,⟨rfl,rfl⟩⟩,⟨rfl,⟨rfl,rfl⟩⟩⟩,⟨⟨rfl,⟨rfl,rfl⟩⟩,⟨⟨rfl,rfl⟩,⟨rfl,rfl⟩⟩⟩⟩,⟨⟨⟨rfl,⟨rfl,rfl⟩⟩,⟨rfl,⟨rfl,rfl⟩⟩⟩,⟨⟨rfl,⟨rfl,rfl⟩⟩,⟨⟨rfl,rfl⟩,⟨rfl,rfl⟩⟩⟩⟩⟩,⟨⟨⟨⟨rfl,⟨rfl,rfl⟩⟩,⟨rfl,⟨rfl,rfl⟩⟩⟩,⟨⟨rfl,⟨rfl,rfl⟩⟩,⟨⟨rfl,rfl⟩,⟨rfl,rfl⟩⟩⟩⟩,⟨⟨⟨rfl,⟨rfl,rfl⟩⟩,⟨rfl,⟨rfl,rfl⟩⟩⟩,⟨⟨rfl,⟨rfl,rfl⟩⟩,⟨⟨rfl,rfl⟩,⟨rfl,rfl⟩⟩⟩⟩⟩⟩,⟨⟨⟨⟨⟨rfl,⟨rfl,rfl⟩⟩,⟨rfl,⟨rfl,rfl⟩⟩⟩,⟨⟨rfl,⟨rfl,rfl⟩⟩,⟨⟨rfl,rfl⟩,⟨rfl,rfl⟩⟩⟩⟩,⟨⟨⟨rfl,⟨rfl,rfl⟩⟩,⟨rfl,⟨rfl,rfl⟩⟩⟩,⟨⟨rfl,⟨rfl,rfl⟩⟩,⟨⟨rfl,rfl⟩,⟨rfl,rfl⟩⟩⟩⟩⟩,⟨⟨⟨⟨rfl,⟨rfl,rfl⟩⟩,⟨rfl,⟨rfl,rfl⟩⟩⟩,⟨⟨rfl,⟨rfl,rfl⟩⟩,⟨⟨rfl,rfl⟩,⟨rfl,rfl⟩⟩⟩⟩,⟨⟨⟨rfl,⟨rfl,rfl⟩⟩,⟨⟨rfl,rfl⟩,⟨rfl,rfl⟩⟩⟩,⟨⟨rfl,⟨rfl,rfl⟩⟩,⟨⟨rfl,rfl⟩,⟨rfl,rfl⟩⟩⟩⟩⟩⟩⟩⟩⟩
theorem BASE : (((((type_of% @Option.getD_some.{0} ∧ type_of% @List.getD_cons_zero.{0}) ∧ (type_of% @List.getD_cons_succ.{0} ∧ (type_of% @List.length_cons.{0} ∧ type_of% @List.length_nil.{0}))) ∧ ((type_of% @List.take_succ_cons.{0} ∧ (type_of% @List.take_zero.{0} ∧ type_of% @List.drop_succ_cons.{0})) ∧ (type_of% @List.drop_zero.{0} ∧ (type_of% @List.nil_append.{0} ∧ type_of% @List.cons_append.{0})))) ∧ (((type_of% @List.append_nil.{0} ∧ type_of% @List.getElem?_cons_zero.{0}) ∧ (type_of% @List.getElem?_cons_succ.{0} ∧ (type_of% @List.set_cons_zero.{0} ∧ type_of% @List.set_cons_succ.{0}))) ∧ ((type_of% @List.contains_nil.{0} ∧ (type_of% @List.contains_cons.{0} ∧ type_of% @List.take_nil.{0})) ∧ (type_of% @List.drop_nil.{0} ∧ (type_of% @List.isEmpty_nil.{0} ∧ type_of% @List.all_cons.{0}))))) ∧ ((((type_of% @List.all_nil.{0} ∧ type_of% @List.isEmpty_cons.{0}) ∧ (type_of% @List.replicate_succ.{0} ∧ (type_of% @List.replicate_zero.{0} ∧ type_of% @Option.isSome_some.{0}))) ∧ ((type_of% @Option.isSome_none.{0} ∧ (type_of% @Option.isNone_none.{0} ∧ type_of% @Option.isNone_some.{0})) ∧ (type_of% @Option.getD_none.{0} ∧ (type_of% @Option.map_some.{0,0} ∧ type_of% @Option.bind_some.{0,0})))) ∧ (((type_of% @List.map_cons.{0,0} ∧ type_of% @List.map_nil.{0,0}) ∧ (type_of% @List.flatMap_cons.{0,0} ∧ (type_of% @List.flatMap_nil.{0,0} ∧ type_of% @Option.map_none.{0,0}))) ∧ ((type_of% @Bool.false_and ∧ (type_of% @Bool.true_and ∧ type_of% @Bool.and_true)) ∧ (type_of% @Bool.and_false ∧ (type_of% @Bool.false_or ∧ type_of% @Bool.true_or)))))):=
  ⟨⟨⟨⟨⟨@Option.getD_some.{0},@List.getD_cons_zero.{0}⟩,⟨@List.getD_cons_succ.{0},⟨@List.length_cons.{0},@List.length_nil.{0}⟩⟩⟩,⟨⟨@List.take_succ_cons.{0},⟨@List.take_zero.{0},@List.drop_succ_cons.{0}⟩⟩,⟨@List.drop_zero.{0},⟨@List.nil_append.{0},@List.cons_append.{0}⟩⟩⟩⟩,⟨⟨⟨@List.append_nil.{0},@List.getElem?_cons_zero.{0}⟩,⟨@List.getElem?_cons_succ.{0},⟨@List.set_cons_zero.{0},@List.set_cons_succ.{0}⟩⟩⟩,⟨⟨@List.contains_nil.{0},⟨@List.contains_cons.{0},@List.take_nil.{0}⟩⟩,⟨@List.drop_nil.{0},⟨@List.isEmpty_nil.{0},@List.all_cons.{0}⟩⟩⟩⟩⟩,⟨⟨⟨⟨@List.all_nil.{0},@List.isEmpty_cons.{0}⟩,⟨@List.replicate_succ.{0},⟨@List.replicate_zero.{0},@Option.isSome_some.{0}⟩⟩⟩,⟨⟨@Option.isSome_none.{0},⟨@Option.isNone_none.{0},@Option.isNone_some.{0}⟩⟩,⟨@Option.getD_none.{0},⟨@Option.map_some.{0,0},@Option.bind_some.{0,0}⟩⟩⟩⟩,⟨⟨⟨@List.map_cons.{0,0},@List.map_nil.{0,0}⟩,⟨@List.flatMap_cons.{0,0},⟨@List.flatMap_nil.{0,0},@Option.map_none.{0,0}⟩⟩⟩,⟨⟨@Bool.false_and,⟨@Bool.true_and,@Bool.and_true⟩⟩,⟨@Bool.and_false,⟨@Bool.false_or,@Bool.true_or⟩⟩⟩⟩⟩⟩
end GoV
namespace GoV
open Go
def aggB (P : Program) (t : TypeId) : Bool:=match P.underlying t with
  | some (.struct _) | some (.array _ _) => true
  | _ => false
def tileB (P : Program) : List Field → Nat → Nat → Bool
  | [],off,n => off == n
  | f :: r,off,n => f.offset == off && tileB P r (off + P.cellsOf f.type) n
def plainT (P : Program) : Nat → TypeId → Bool
  | 0,_ => false
  | g + 1,t => match P.underlying t with
    | some .bool | some (.int _) | some .string => true
    | some (.slice e) => plainT P g e && Nat.blt 0 (P.cellsOf e)
    | some (.struct fs) => tileB P fs.toList 0 (P.cellsOf t) && fs.toList.all fun f => plainT P g f.type
    | some (.array n e) => (n * P.cellsOf e == P.cellsOf t) && plainT P g e
    | _ => false
def ShF (S : TypeId → List PV → Prop) : List Field → List PV → Prop
  | [],cs => cs = []
  | f :: r,cs => ∃ a b,cs = a ++ b ∧ S f.type a ∧ ShF S r b
def ShA (S : List PV → Prop) : Nat → List PV → Prop
  | 0,cs => cs = []
  | n + 1,cs => ∃ a b,cs = a ++ b ∧ S a ∧ ShA S n b
def elOf (agg : Bool) (cs : List PV) : PV:=if agg then .agg cs else cs.headD .any
def Sh (N : TypeId → Bool) (P : Program) : Nat → TypeId → List PV → Prop
  | 0,_,_ => False
  | g + 1,t,cs => match P.underlying t with
    | some .bool => ∃ b,cs = [.bool b]
    | some (.int k) => ∃ n,cs = [.int k n] ∧ (Lit.int k n).wf = true
    | some .string => ∃ s,cs = [.str s] ∧ s.size ≤ maxLen
    | some (.slice e) => (N t = true ∧ (cs = [.nils] ∨ ∃ c,cs = [.vs (P.cellsOf e) [] (some c)])) ∨ ∃ es : List PV,cs = [.vs (P.cellsOf e) es none] ∧ (N t = true → es ≠ []) ∧ es.length ≤ maxLen ∧ ∀ x ∈ es,∃ ps,x = elOf (aggB P e) ps ∧ Sh N P g e ps
    | some (.struct fs) => ShF (Sh N P g) fs.toList cs
    | some (.array n e) => ShA (Sh N P g e) n cs
    | _ => False
theorem Sh_one {N : TypeId → Bool} {P : Program} {g : Nat} {t : TypeId} {ps : List PV} (ha : aggB P t = false) (h : Sh N P g t ps) : ∃ p,ps = [p] ∧ p.cells = [p]:=by
  cases g with
  | zero => simp [Sh] at h
  | succ g =>
    unfold Sh at h
    unfold aggB at ha
    cases hu : P.underlying t with
    | none => rw [hu] at h; exact h.elim
    | some u =>
      rw [hu] at h ha
      cases u <;> simp only [Bool.true_eq_false] at h ha
      · obtain ⟨b,rfl⟩:=h; exact ⟨_,rfl,rfl⟩
      · obtain ⟨b,rfl,_⟩:=h; exact ⟨_,rfl,rfl⟩
      · obtain ⟨b,rfl,_⟩:=h; exact ⟨_,rfl,rfl⟩
      · rcases h with ⟨_,rfl | ⟨c,rfl⟩⟩ | ⟨es,rfl,_⟩
        · exact ⟨_,rfl,rfl⟩
        · exact ⟨_,rfl,rfl⟩
        · exact ⟨_,rfl,rfl⟩
theorem el_cells {N : TypeId → Bool} {P : Program} {g : Nat} {t : TypeId} {ps : List PV} (h : Sh N P g t ps) : (elOf (aggB P t) ps).cells = ps:=by
  cases ha : aggB P t with
  | true => rfl
  | false =>
    obtain ⟨p,rfl,hp⟩:=Sh_one ha h
    simpa [elOf] using hp
section
variable {N : TypeId → Bool} {H : Type} {enc : TypeId × Value → H} {P : Program} {w : World} [Laid w] {base : Nat} {spare : Nat → Bool} {held : Bool}
theorem tile_RL {g : Nat} {fuel : Nat} {cs : List Value} (ih : ∀ fuel t cs d ps,plainT P g t = true → DataW.trod enc P w base spare held fuel t cs = some (d,ps) → ∃ pvs,RL (Env.start w) cs pvs ∧ Sh N P g t pvs ∧ ∀ c ∈ cs,c.oneCell' = true) :
    ∀ (fs : List Field) (off : Nat),tileB P fs off cs.length = true → (∀ f ∈ fs,plainT P g f.type = true) →
      (∀ f ∈ fs,∃ x,DataW.trod enc P w base spare held fuel f.type ((cs.drop f.offset).take (P.cellsOf f.type)) = some x) →
      off ≤ cs.length ∧ ∃ pvs,RL (Env.start w) (cs.drop off) pvs ∧ ShF (Sh N P g) fs pvs ∧ ∀ c ∈ cs.drop off,c.oneCell' = true
  | [],off,ht,_,_ => by
    simp only [tileB,beq_iff_eq] at ht
    subst ht
    exact ⟨Nat.le_refl _,[],by simpa using RL.nil,rfl,by simp⟩
  | f :: r,off,ht,hp,hm => by
    simp only [tileB,Bool.and_eq_true,beq_iff_eq] at ht
    obtain ⟨ho,ht⟩:=ht
    obtain ⟨⟨d,q⟩,h1⟩:=hm f (by simp)
    obtain ⟨hl,pr,r1,r2,r3⟩:=tile_RL ih r (off + P.cellsOf f.type) ht (fun f' hf => hp f' (by simp [hf])) fun f' hf => hm f' (by simp [hf])
    obtain ⟨pf,f1,f2,f3⟩:=ih fuel _ _ _ _ (hp f (by simp)) h1
    have e : cs.drop off = (cs.drop f.offset).take (P.cellsOf f.type) ++ cs.drop (off + P.cellsOf f.type):=by
      rw [ho,← List.drop_drop,List.take_append_drop]
    refine ⟨by omega,pf ++ pr,by rw [e]; exact f1.append r1,⟨pf,pr,rfl,f2,r2⟩,?_⟩
    rw [e]
    intro c hc
    rcases List.mem_append.1 hc with hc | hc
    · exact f3 c hc
    · exact r3 c hc
theorem arr_RL {g : Nat} {fuel : Nat} {cs : List Value} {e : TypeId} (he : plainT P g e = true) (ih : ∀ fuel t cs d ps,plainT P g t = true → DataW.trod enc P w base spare held fuel t cs = some (d,ps) → ∃ pvs,RL (Env.start w) cs pvs ∧ Sh N P g t pvs ∧ ∀ c ∈ cs,c.oneCell' = true) :
    ∀ (m k : Nat) (xs : List (DataW H × List MemPlace)),(k + m) * P.cellsOf e = cs.length →
      ((List.range' k m).mapM fun i => DataW.trod enc P w base spare held fuel e ((cs.drop (i * P.cellsOf e)).take (P.cellsOf e))) = some xs →
      ∃ pvs,RL (Env.start w) (cs.drop (k * P.cellsOf e)) pvs ∧ ShA (Sh N P g e) m pvs ∧ ∀ c ∈ cs.drop (k * P.cellsOf e),c.oneCell' = true
  | 0,k,xs,hl,_ => by
    have : cs.drop (k * P.cellsOf e) = []:=by simp at hl ⊢; omega
    rw [this]
    exact ⟨[],.nil,rfl,by simp⟩
  | m + 1,k,xs,hl,hm => by
    simp only [List.range'_succ,List.mapM_cons,Option.pure_def,Option.bind_eq_bind,Option.bind_eq_some_iff] at hm
    obtain ⟨⟨d,q⟩,h1,ys,h2,_⟩:=hm
    obtain ⟨pr,r1,r2,r3⟩:=arr_RL he ih m (k + 1) ys (by rw [← hl]; congr 1; omega) h2
    obtain ⟨pf,f1,f2,f3⟩:=ih fuel _ _ _ _ he h1
    have e' : cs.drop (k * P.cellsOf e) = (cs.drop (k * P.cellsOf e)).take (P.cellsOf e) ++ cs.drop ((k + 1) * P.cellsOf e):=by
      rw [Nat.succ_mul,← List.drop_drop,List.take_append_drop]
    refine ⟨pf ++ pr,by rw [e']; exact f1.append r1,⟨pf,pr,rfl,f2,r2⟩,?_⟩
    rw [e']
    intro c hc
    rcases List.mem_append.1 hc with hc | hc
    · exact f3 c hc
    · exact r3 c hc
theorem start_S {b o : Nat} {v : Value} (h : w.cell? ⟨b,o,none⟩ = some v) (h1 : v.oneCell' = true) : (Env.start w).S b o = some v:=by
  simp [Env.start,h,h1]
theorem addr_add_none (b o i : Nat) : (⟨b,o,none⟩ : Addr).add i = ⟨b,o + i,none⟩:=by
  unfold Addr.add; split <;> simp_all
theorem sl_RL {g : Nat} {fuel : Nat} {e : TypeId} {b o : Nat} (he : plainT P g e = true) (ih : ∀ fuel t cs d ps,plainT P g t = true → DataW.trod enc P w base spare held fuel t cs = some (d,ps) → ∃ pvs,RL (Env.start w) cs pvs ∧ Sh N P g t pvs ∧ ∀ c ∈ cs,c.oneCell' = true)
    : ∀ (n : Nat),(∀ i < n,∃ x,((w.cells? base ((⟨b,o,none⟩ : Addr).add (i * P.cellsOf e)) (P.cellsOf e)).bind (DataW.trod enc P w base spare held fuel e)) = some x) →
      ∃ (vals : List Value) (es : List PV),vals.length = n * P.cellsOf e ∧ es.length = n ∧ (∀ j < n * P.cellsOf e,w.cell? ⟨b,o + j,none⟩ = vals[j]?) ∧ RL (Env.start w) vals (flat es) ∧ (∀ c ∈ vals,c.oneCell' = true) ∧
        (∀ x ∈ es,x.cells.length = P.cellsOf e) ∧ ∀ x ∈ es,∃ ps,x = elOf (aggB P e) ps ∧ Sh N P g e ps
  | 0,_ => ⟨[],[],by simp,rfl,by simp,.nil,by simp,by simp,by simp⟩
  | n + 1,h => by
    obtain ⟨vals,es,h1,h2,h3,h4,h5,h6,h7⟩:=sl_RL he ih n fun i hi => h i (by omega)
    obtain ⟨x,hx⟩:=h n (by omega)
    simp only [Option.bind_eq_some_iff] at hx
    obtain ⟨cs,hc,hx⟩:=hx
    obtain ⟨_,hl,hcell⟩:=World.cells?_some hc
    obtain ⟨pvs,p1,p2,p3⟩:=ih fuel e cs x.1 x.2 he hx
    have hel:=el_cells p2
    refine ⟨vals ++ cs,es ++ [elOf (aggB P e) pvs],by simp [h1,hl,Nat.succ_mul],by simp [h2],?_,?_,?_,?_,?_⟩
    · intro j hj
      by_cases hlt : j < n * P.cellsOf e
      · rw [List.getElem?_append_left (by omega)]
        exact h3 j hlt
      · rw [Nat.succ_mul] at hj
        rw [List.getElem?_append_right (by omega),h1]
        have:=hcell (j - n * P.cellsOf e) (by omega)
        rw [addr_add_none,addr_add_none] at this
        rw [← this]
        congr 2
        omega
    · rw [flat_append]
      refine h4.append ?_
      simp only [flat_cons,flat_nil,List.append_nil,hel]
      exact p1
    · intro c hc
      rcases List.mem_append.1 hc with hc | hc
      · exact h5 c hc
      · exact p3 c hc
    · intro x hx
      rcases List.mem_append.1 hx with hx | hx
      · exact h6 x hx
      · simp at hx; subst hx
        rw [hel,← p1.length,hl]
    · intro x hx
      rcases List.mem_append.1 hx with hx | hx
      · exact h7 x hx
      · simp at hx; subst hx
        exact ⟨pvs,rfl,p2⟩
theorem trod_Sh : ∀ (g fuel : Nat) (t : TypeId) (cs : List Value) (d : DataW H) (ps : List MemPlace),plainT P g t = true → DataW.trod enc P w base spare held fuel t cs = some (d,ps) →
    ∃ pvs,RL (Env.start w) cs pvs ∧ Sh N P g t pvs ∧ ∀ c ∈ cs,c.oneCell' = true
  | 0,_,_,_,_,_,hp,_ => by simp [plainT] at hp
  | g + 1,0,_,_,_,_,_,h => by simp [DataW.trod] at h
  | g + 1,fuel + 1,t,cs,d,ps,hp,h => by
    have ih:=fun fuel t cs d ps => trod_Sh g fuel t cs d ps
    unfold plainT at hp
    unfold Sh
    cases hu : P.underlying t with
    | none => rw [hu] at hp; simp at hp
    | some u =>
      cases u <;> rw [hu] at hp <;> simp only [Bool.false_eq_true] at hp <;> simp only []
      case bool =>
        obtain ⟨b,rfl,_⟩:=DataW.trod_bool hu h
        exact ⟨[.bool b],.cons _ _ _ _ (.bool b) .nil,⟨b,rfl⟩,by simp [Value.oneCell']⟩
      case int k =>
        obtain ⟨n,rfl,_,hw⟩:=DataW.trod_int hu h
        exact ⟨[.int k n],.cons _ _ _ _ (.int k n) .nil,⟨n,rfl,hw⟩,by simp [Value.oneCell']⟩
      case string =>
        obtain ⟨s,rfl,_,hs⟩:=DataW.trod_string hu h
        exact ⟨[.str s],.cons _ _ _ _ (.str s) .nil,⟨s,rfl,hs⟩,by simp [Value.oneCell']⟩
      case slice e =>
        simp only [Bool.and_eq_true] at hp
        obtain ⟨he,hz⟩:=hp
        have hz : 0 < P.cellsOf e:=by simpa using hz
        rcases DataW.trod_slice hu h with ⟨rfl,_⟩ | ⟨a,len,cap,elems,rest,n,hn,rfl,_,_,hlc,hcm,hel,hel2,_⟩
        · by_cases hN : N t = true
          · exact ⟨[.nils],.cons _ _ _ _ .nils .nil,.inl ⟨hN,.inl rfl⟩,by simp [Value.oneCell']⟩
          · exact ⟨[.vs (P.cellsOf e) [] none],.cons _ _ _ _ (.vsE _ none 0 none (by simp) (by simp)) .nil,.inr ⟨[],rfl,fun h => absurd h hN,by simp,by simp⟩,by simp [Value.oneCell']⟩
        · have each : ∀ i < len,∃ x,((w.cells? base (a.add (i * P.cellsOf e)) (P.cellsOf e)).bind (DataW.trod enc P w base spare held n e)) = some x:=by
            intro i hi
            rw [hel2 i hi]
            exact ⟨elems[i]'(by omega),by simp⟩
          cases len with
          | zero =>
            by_cases hN : N t = true
            · exact ⟨[.vs (P.cellsOf e) [] (some cap)],.cons _ _ _ _ (.vsE _ (some a) cap (some cap) (by simp) (by simp)) .nil,.inl ⟨hN,.inr ⟨cap,rfl⟩⟩,by simp [Value.oneCell']⟩
            · exact ⟨[.vs (P.cellsOf e) [] none],.cons _ _ _ _ (.vsE _ (some a) cap none (by simp) (by simp)) .nil,.inr ⟨[],rfl,fun h => absurd h hN,by simp,by simp⟩,by simp [Value.oneCell']⟩
          | succ m =>
            have hsp : a.spot = none:=by
              obtain ⟨x,hx⟩:=each 0 (by omega)
              simp only [Option.bind_eq_some_iff,Nat.zero_mul] at hx
              obtain ⟨c0,hc0,_⟩:=hx
              obtain ⟨_,hl0,hcell⟩:=World.cells?_some hc0
              have:=hcell 0 hz
              simp only [Addr.add,if_true] at this
              have hs0 : c0[0]? = some (c0[0]'(by omega)):=by simp
              rw [hs0] at this
              unfold World.cell? at this
              split at this
              · split at this
                · simp at this
                · next hn => simpa using hn
              · simp at this
            obtain ⟨b,o,sp⟩:=a
            simp only at hsp; subst hsp
            obtain ⟨vals,es,h1,h2,h3,h4,h5,h6,h7⟩:=sl_RL he ih (m + 1) each
            refine ⟨[.vs (P.cellsOf e) es none],.cons _ _ _ _ (.vs _ b o cap none vals es (m + 1) h2.symm ?_ h4 h6 (by omega) (by simp)) .nil,.inr ⟨es,rfl,fun _ h0 => (by rw [h0] at h2; simp at h2),by omega,h7⟩,by simp [Value.oneCell']⟩
            intro i v hv
            obtain ⟨hi,_⟩:=List.getElem?_eq_some_iff.1 hv
            refine start_S ?_ (h5 v (List.mem_of_getElem? hv))
            rw [h3 i (by omega)]
            exact hv
      case struct fs =>
        simp only [Bool.and_eq_true,List.all_eq_true] at hp
        obtain ⟨xs,n,hn,_,hl,hxl,hx⟩:=DataW.trod_struct hu h
        obtain ⟨_,pvs,r1,r2,r3⟩:=tile_RL (fuel:=n) ih fs.toList 0 (by rw [hl]; exact hp.1) hp.2 (by
          intro f hf
          obtain ⟨i,hi,rfl⟩:=List.getElem_of_mem hf
          rw [hx i _ (by simp at hi ⊢)]
          simp at hi
          exact ⟨xs[i]'(by omega),by simp⟩)
        exact ⟨pvs,by simpa using r1,r2,by simpa using r3⟩
      case array n e =>
        simp only [Bool.and_eq_true,beq_iff_eq] at hp
        unfold DataW.trod at h
        simp only [hu] at h
        split at h
        · next hl =>
          simp only [Option.map_eq_some_iff] at h
          obtain ⟨xs,hm,_⟩:=h
          rw [List.range_eq_range'] at hm
          obtain ⟨pvs,r1,r2,r3⟩:=arr_RL hp.2 ih n 0 xs (by rw [Nat.zero_add,hl]; exact hp.1) hm
          exact ⟨pvs,by simpa using r1,r2,by simpa using r3⟩
        · simp at h
theorem open_arg {g : Nat} {t : TypeId} {v : Value} {d : DataW H} {ps : List MemPlace} {r : Reach} {b0 : Nat} (hp : plainT P g t = true) (hval : Value.okWide P w r b0 t v) (h : DataW.Trod enc P w base spare held t v d ps) :
    ∃ pvs,R (Env.start w) v (elOf (aggB P t) pvs) ∧ Sh N P g t pvs:=by
  obtain ⟨fuel,hf⟩:=h
  obtain ⟨pvs,h1,h2,h3⟩:=trod_Sh g fuel t _ d ps hp hf
  cases ha : aggB P t with
  | true =>
    unfold Value.okWide at hval
    unfold aggB at ha
    split at ha
    · next hu =>
      rw [hu] at hval
      obtain ⟨cs,rfl,_⟩:=hval
      simp only [Value.cells] at h1 h3
      exact ⟨pvs,by have:=R.agg (E:=Env.start w) cs.toList pvs h3 h1; simpa [elOf] using this,h2⟩
    · next hu =>
      rw [hu] at hval
      obtain ⟨cs,rfl,_⟩:=hval
      simp only [Value.cells] at h1 h3
      exact ⟨pvs,by have:=R.agg (E:=Env.start w) cs.toList pvs h3 h1; simpa [elOf] using this,h2⟩
    · simp at ha
  | false =>
    obtain ⟨p,rfl,hpc⟩:=Sh_one ha h2
    refine ⟨[p],?_,h2⟩
    have hc : v.cells = #[v]:=by
      cases v <;> try rfl
      case agg cs =>
        exfalso
        unfold Value.okWide at hval
        unfold aggB at ha
        split at hval
        · next hu => rw [hu] at ha; simp at ha
        · next hu => rw [hu] at ha; simp at ha
        · unfold Cell.okWide Cell.ok at hval
          cases hu : P.underlying t with
          | none => simp [hu] at hval
          | some u => cases u <;> simp [hu] at hval
    rw [hc] at h1
    simp only at h1
    cases h1 with
    | cons _ _ _ _ h _ => simpa [elOf] using h
theorem trodAll_below (hl : laidOutB P = true) {W W' : World} (hb : Go.RowKit.Below W.heap.size W W') {sp : Nat → Bool} : ∀ {ts : List TypeId} {vs : List Value} {ds : List (DataW H)} {ps : List MemPlace},(∀ t ∈ ts,P.readableRec t = true ∧ t < P.types.size) →
    DataW.TrodAll enc P W 0 (fun _ => true) true ts vs ds ps → (∀ x ∈ ps,x.block < W.heap.size) → (∀ x ∈ ps,sp x.block = true) → DataW.TrodAll enc P W' 0 sp true ts vs ds ps
  | [],[],[],_,_,h,_,_ => h
  | t :: ts,v :: vs,d :: ds,ps,ht,h,hlt,hsp => by
    obtain ⟨p,q,h1,h2,rfl⟩:=h
    exact ⟨p,q,WideElems.Trod_stays hl (ht t (by simp)).1 (ht t (by simp)).2 h1 (fun x hx => hb.same (hlt x (by simp [hx]))) (fun x hx => hsp x (by simp [hx])),trodAll_below hl hb (fun t' h' => ht t' (by simp [h'])) h2 (fun x hx => hlt x (by simp [hx])) (fun x hx => hsp x (by simp [hx])),rfl⟩
  | [],[],_ :: _,_,_,h,_,_ => by cases h
  | [],_ :: _,_,_,_,h,_,_ => by cases h
  | _ :: _,[],_,_,_,h,_,_ => by cases h
  | _ :: _,_ :: _,[],_,_,h,_,_ => by cases h
end
theorem Sh_slice {N : TypeId → Bool} {P : Program} {g : Nat} {t e : TypeId} {cs : List PV} (hu : P.underlying t = some (.slice e)) (hN : N t = false) (h : Sh N P (g + 1) t cs) : ∃ es : List PV,cs = [.vs (P.cellsOf e) es none] ∧ es.length ≤ maxLen ∧ ∀ x ∈ es,∃ ps,x = elOf (aggB P e) ps ∧ Sh N P g e ps:=by
  unfold Sh at h
  rw [hu] at h
  simp only [hN,Bool.false_eq_true,false_and,false_or,false_implies,true_and] at h
  exact h
end GoV
namespace GoV
open Go Go.RowKit Go.WideShapes Go.ChangeShapes
def Args (N : TypeId → Bool) (P : Program) (g : Nat) : List TypeId → List PV → Prop
  | [],ps => ps = []
  | t :: ts,ps => ∃ cs r,ps = elOf (aggB P t) cs :: r ∧ Sh N P g t cs ∧ Args N P g ts r
theorem strip2_true {H : Heap} {v : PV} (h : strip2 H v = .bool true) : v = .bool true:=by
  cases v
  case gsl sz id ver off len =>
    rw [strip2_gsl] at h
    cases hr : rowEs H id ver off len <;> rw [hr] at h <;> cases h
  all_goals first | exact h | (exfalso; cases h)
theorem ap_true {P : Program} {pol : Pol} {f : Nat} {args : List PV} (h : ap P pol f args = some (.ret (.bool true))) : ∃ H',callF G P pol f args .empty = some (.ret (.bool true),H'):=by
  unfold ap at h
  cases hc : callF G P pol f args .empty with
  | none => rw [hc] at h; cases h
  | some r =>
    obtain ⟨r,H'⟩:=r
    rw [hc] at h
    simp only [Option.map_some,Option.some.injEq] at h
    cases r with
    | pan v => simp at h
    | ret v =>
      simp only [CR.ret.injEq] at h
      rw [strip2_true h]
      exact ⟨H',rfl⟩
section
variable {N : TypeId → Bool} {H : Type} {enc : TypeId × Value → H} {P : Program}
theorem open_args {w : World} [Laid w] {base b0 : Nat} {spare : Nat → Bool} {held : Bool} {r : Reach} {g : Nat} : ∀ {ts : List TypeId} {vs : List Value} {ds : List (DataW H)} {ps : List MemPlace},(∀ t ∈ ts,plainT P g t = true) →
    (∀ (j : Nat) (t : TypeId) (v : Value),ts[j]? = some t → vs[j]? = some v → Value.okWide P w r b0 t v) → DataW.TrodAll enc P w base spare held ts vs ds ps → ∃ pvs,RL (Env.start w) vs pvs ∧ Args N P g ts pvs ∧ ds.length = ts.length
  | [],[],[],_,_,_,_ => ⟨[],.nil,rfl,rfl⟩
  | t :: ts,v :: vs,d :: ds,ps,hp,hv,h => by
    obtain ⟨p,q,h1,h2,rfl⟩:=h
    obtain ⟨cs,c1,c2⟩:=open_arg (hp t (by simp)) (hv 0 t v rfl rfl) h1
    obtain ⟨r,r1,r2,r3⟩:=open_args (ts:=ts) (vs:=vs) (fun t' h' => hp t' (by simp [h'])) (fun j t v hj hv' => hv (j + 1) t v (by simpa using hj) (by simpa using hv')) h2
    exact ⟨_,.cons _ _ _ _ c1 r1,⟨cs,r,rfl,c2,r2⟩,by simp [r3]⟩
  | [],[],_ :: _,_,_,_,h => by cases h
  | [],_ :: _,_,_,_,_,h => by cases h
  | _ :: _,[],_,_,_,_,h => by cases h
  | _ :: _,_ :: _,[],_,_,_,h => by cases h
theorem post_of_below {f : Func} {s : ChangeSpec} {apart fresh handsOn again : Bool} {W W' : World} {args : Array Value} {v : Value} {ds gs : List (DataW H)} {before pa pv : List MemPlace}
    (hW : DataW.Whole enc P f.params.toList s.vars apart W args.toList ds gs before)
    (hres : ∀ (b : Nat) (sp : Nat → Bool) (hd : Bool),DataW.TrodAll enc P W' b sp hd f.resultTypes.toList (v.resultList f.resultTypes.size) (s.fn H (ds ++ gs)).results [])
    (hargs : ∀ sp : Nat → Bool,(∀ p ∈ before,sp p.block = true) → DataW.TrodAll enc P W' 0 sp true f.params.toList args.toList (s.fn H (ds ++ gs)).args pa)
    (hvars : ∀ sp : Nat → Bool,(∀ p ∈ before,sp p.block = true) → DataW.TrodVars enc P W' sp s.vars (s.fn H (ds ++ gs)).vars pv)
    (hps : before = pa ++ pv) (hb : Below W.heap.size W W')
    (hok : ∀ (j : Nat) (t : TypeId) (r : Value),f.resultTypes[j]? = some t → (v.resultList f.resultTypes.size)[j]? = some r → Value.okWide P W' .any 0 t r) :
    s.post enc P f apart fresh handsOn again W args v W':=by
  have hlt : ∀ p ∈ before,p.block < W.heap.size:=fun p hp => hW.lt p hp
  have hold : ∀ p ∈ before,(fun b => decide (b < W.heap.size)) p.block = true:=fun p hp => by simpa using hlt p hp
  refine ⟨ds,gs,before,[],pa,pv,hW,hres _ _ _,hargs _ hold,hvars _ hold,World.keptBut_mono (fun p hp => ⟨hp,?_⟩) (hb.frame (· ∈ before)),fun _ => ?_⟩
  · rw [hps,List.mem_append] at hp
    exact Or.inr hp
  · obtain ⟨_,_,_,_,_,hz,hn⟩:=hW
    refine ⟨hok,_,_,([] ++ pa) ++ pv,⟨[] ++ pa,pv,trodAll_append (hargs _ (fun _ _ => rfl)) (hres _ _ _),hvars _ (fun _ _ => rfl),rfl,?_,?_⟩,?_⟩
    · intro b off hp
      have hin : MemPlace.cell b off ∈ before:=by rw [hps]; simpa using hp
      rw [hb.frozen (hlt _ hin)]
      exact hz b off hin
    · intro ha
      have:=hn ha
      rw [hps] at this
      simpa using this
    · intro p hp _
      rw [hps]
      simpa using hp
theorem law_calls {f : Func} {s : ChangeSpec} {k g : Nat} {pol : Pol} {tb : TypeId} (hvars : s.vars = []) (hl : laidOutB P = true) (hts : ∀ t ∈ f.params.toList,(P.readableRec t = true ∧ t < P.types.size) ∧ plainT P g t = true)
    (hres : f.resultTypes = #[tb]) (htb : P.underlying tb = some .bool)
    (hfn : ∀ ds : List (DataW H),ds.length = f.params.toList.length → (s.fn H ds).results = [.lit (.bool true)] ∧ (s.fn H ds).args = ds ∧ (s.fn H ds).vars = [])
    (walk : ∀ pvs,Args N P g f.params.toList pvs → ap P pol k pvs = some (.ret (.bool true)))
    {W : World} [Laid W] {base : Nat} {args : Array Value} {ds gs : List (DataW H)} {before : List MemPlace} (hval : ∀ (j : Nat) t v,f.params[j]? = some t → args[j]? = some v → Value.okWide P W .any base t v)
    (hW : DataW.Whole enc P f.params.toList s.vars false W args.toList ds gs before) :
    Calls P k args W fun e W' => ∃ v,e = .returned v ∧ s.post enc P f false true false false W args v W':=by
  have hW0:=hW
  obtain ⟨p,q,hA,hV,rfl,hfz,hnd⟩:=hW
  rw [hvars] at hV
  obtain ⟨rfl,rfl⟩:=trodVars_none hV
  obtain ⟨pvs,hR,hArgs,hlen⟩:=open_args (fun t ht => (hts t ht).2) (fun j t v hj hv => hval j t v (by simpa using hj) (by simpa using hv)) hA
  obtain ⟨H',hc⟩:=ap_true (walk pvs hArgs)
  have hcalls:=calls_true_W hc hR
  rw [Array.toArray_toList] at hcalls
  refine hcalls.mono fun e W' ⟨he,hb⟩ => ⟨.bool true,he,?_⟩
  obtain ⟨f1,f2,f3⟩:=hfn ds hlen
  have hlt : ∀ x ∈ p ++ [],x.block < W.heap.size:=fun x hx => hW0.lt x hx
  refine post_of_below (pa:=p) (pv:=[]) hW0 ?_ ?_ ?_ rfl hb ?_
  · intro b sp hd
    rw [List.append_nil,f1,hres]
    exact ⟨[],[],⟨1,by simp [DataW.trod,Value.cells,htb]⟩,rfl,rfl⟩
  · intro sp hsp
    rw [List.append_nil,f2]
    exact trodAll_below hl hb (fun t ht => (hts t ht).1) hA (fun x hx => hlt x (by simp [hx])) fun x hx => hsp x (by simp [hx])
  · intro sp hsp
    rw [List.append_nil,f3,hvars]
    rfl
  · rw [hres]
    intro j t r hj hr
    match j,hj,hr with
    | 0,hj,hr =>
      simp [Value.resultList] at hj hr
      subst hj; subst hr
      simp [Value.okWide,htb,Cell.okWide,Cell.ok]
end
end GoV
namespace GoV
open Go
def atL : List Oper → Nat → Option Oper
  | [],_ => none
  | o :: _,0 => some o
  | _ :: r,n + 1 => atL r n
def consP : Option Oper → List Oper → List Oper
  | some o,r => o :: r
  | none,r => r
def permL (ops : List Oper) : List Nat → List Oper
  | [] => []
  | i :: r => consP (atL ops i) (permL ops r)
theorem atL_zero (o : Oper) (r : List Oper) : atL (o :: r) 0 = some o:=rfl
theorem atL_succ (o : Oper) (r : List Oper) (n : Nat) : atL (o :: r) (n + 1) = atL r n:=rfl
theorem permL_nil (ops : List Oper) : permL ops [] = []:=rfl
theorem permL_cons (ops : List Oper) (i : Nat) (r : List Nat) : permL ops (i :: r) = consP (atL ops i) (permL ops r):=rfl
theorem consP_some (o : Oper) (r : List Oper) : consP (some o) r = o :: r:=rfl
theorem atL_get : ∀ (l : List Oper) (i : Nat),atL l i = l[i]?
  | [],_ => by simp [atL]
  | _ :: _,0 => by simp [atL]
  | _ :: r,n + 1 => by simp [atL,atL_get r n]
theorem runOps_perm (rec : Rec) (cx : Ctx) (ops : Array Oper) : ∀ (l : List Nat) (s : St),(l.all fun i => Nat.blt i ops.size) = true → runOps rec cx ops l s = runL rec cx ops (permL ops.toList l) s
  | [],s,_ => by simp [runOps,permL,runL]
  | i :: r,s,h => by
    simp only [List.all_cons,Bool.and_eq_true] at h
    have hi : i < ops.size:=by simpa using h.1
    have e : ops[i]? = some ops[i]:=Array.getElem?_eq_getElem hi
    have ea : atL ops.toList i = some ops[i]:=by rw [atL_get,Array.getElem?_toList]; exact e
    have ih:=fun s => runOps_perm rec cx ops r s h.2
    rw [permL_cons,ea,consP_some]
    simp only [runOps,runL,e,Option.bind_some,contL]
    congr 1
    funext w
    split
    · congr 1
      funext x
      cases x with
      | val v s' => simp only; congr 1; funext s; exact ih s
      | pan v s' => rfl
    · congr 1; funext s; exact ih s
def AllEq (cx : Ctx) (ops : Array Oper) (s : St) (x : Option (Option PV × St)) : List (List Nat) → Prop
  | [] => True
  | l :: r => runL G cx ops (permL ops.toList l) s = x ∧ AllEq cx ops s x r
theorem AllEq_nil (cx : Ctx) (ops : Array Oper) (s : St) (x : Option (Option PV × St)) : AllEq cx ops s x [] = True:=rfl
theorem AllEq_cons (cx : Ctx) (ops : Array Oper) (s : St) (x : Option (Option PV × St)) (l : List Nat) (r : List (List Nat)) : AllEq cx ops s x (l :: r) = (runL G cx ops (permL ops.toList l) s = x ∧ AllEq cx ops s x r):=rfl
def exK : Option (Option PV × St) → Option (Ex × St)
  | some (none,s) => some (.normal,s)
  | _ => none
theorem exK_none (s : St) : exK (some (none,s)) = some (.normal,s):=rfl
def inR (n : Nat) (L : List (List Nat)) : Bool:=L.all fun l => l.all fun i => Nat.blt i n
theorem AllEq_mem {cx : Ctx} {ops : Array Oper} {s : St} {x : Option (Option PV × St)} : ∀ {L : List (List Nat)},inR ops.size L = true → AllEq cx ops s x L → ∀ l ∈ L,runOps G cx ops l s = x
  | [],_,_,_,hl => by simp at hl
  | y :: r,hr,h,l,hl => by
    simp only [inR,List.all_cons,Bool.and_eq_true] at hr
    rcases List.mem_cons.1 hl with rfl | hl
    · rw [runOps_perm G cx ops l s (by simpa using hr.1)]; exact h.1
    · exact AllEq_mem (by simpa [inR] using hr.2) h.2 l hl
theorem brute_eq {cx : Ctx} {ops : Array Oper} {s : St} {L : List (List Nat)} (hL : orders ops = List.range ops.size :: L) (hr : inR ops.size L = true) (h : AllEq cx ops s (runL G cx ops ops.toList s) L) : bruteW G cx ops s = exK (runL G cx ops ops.toList s):=by
  have e0:=runOps_runL G cx ops ops.size 0 s (by omega)
  rw [List.drop_zero,← List.range_eq_range'] at e0
  have ha : ∀ l ∈ orders ops,runOps G cx ops l s = runL G cx ops ops.toList s:=by
    rw [hL]
    intro l hl
    rcases List.mem_cons.1 hl with rfl | hl
    · exact e0
    · exact AllEq_mem hr h l hl
  cases hx : runL G cx ops ops.toList s with
  | none =>
    unfold bruteW
    rw [dif_neg]; rfl
    rintro ⟨s',hs⟩
    have:=hs _ (List.mem_cons_self ..)
    rw [e0,hx] at this
    simp at this
  | some r =>
    obtain ⟨m,s'⟩:=r
    cases m with
    | none => exact bruteW_some fun l hl => (ha l hl).trans hx
    | some v =>
      unfold bruteW
      rw [dif_neg]; rfl
      rintro ⟨s'',hs⟩
      have:=hs _ (List.mem_cons_self ..)
      rw [e0,hx] at this
      simp at this
theorem dOp_mf (cx : Ctx) (ops : Array Oper) (i : Nat) (d : Option Nat) (r : List Oper) (l : List (Nat × MF)) (x : Option OpR) : dOp cx ops i d r l none x = none:=rfl
theorem tm_lf (t : Nat → PV) : tm t .lf = t:=by
  funext i
  rw [tm_apply,look_lf,tmK_none]
noncomputable def dfK (P : Program) (pol : Pol) (rs : List ResultVar) (m : Option PV) (f : Nat) (t : Nat → PV) (b : Nat → Option (Nat × List PV)) (ds : List VD) (rc : Rc) (x : Option (Ex × St)) : Option (CR × Heap):=x.bind fun r => match r.1,r.2.defers with
  | .normal,[] | .ret,[] => endK P pol rs (afterRc r.2.rc m) ⟨f,t,b,ds,r.2.H,rc⟩
  | _,_ => none
theorem endK_call {P : Program} {pol : Pol} {g : Nat} {fn : Func} {c : Code} {nt : Nat} (args : List PV) (hf : P.funcs[g]? = some fn) (hb : fn.body = some c) (hn : fn.ntmps = nt) (hr : fn.results = #[]) (hok : codeOK c = true) (hnm : (fn.name == "runtime.NumGoroutine") = false) (ha : args.length ≤ nt)
    (rs : List ResultVar) (m : Option PV) (f : Nat) (t : Nat → PV) (b : Nat → Option (Nat × List PV)) (ds : List VD) (H : Heap) (rc : Rc) :
    endK P pol rs m ⟨f,t,b,.call g args :: ds,H,rc⟩ = dfK P pol rs m f t b ds rc (W ⟨P,pol,g,nt,none⟩ c ⟨H.next,tm (fun i => args.getD i .any) .lf,fun _ => none,[],⟨H.rows,H.next + 1⟩,rcOf m⟩):=by
  subst hn
  rw [tm_lf]
  simp only [endK,unwindV,bodyOf,hf,Option.bind_some,hb]
  rw [if_pos ⟨ha,hnm⟩]
  have hG : G ⟨P,pol,g,fn.ntmps,none⟩ c = W ⟨P,pol,g,fn.ntmps,none⟩ c:=by
    funext s; simp only [G,guardR,hok,if_true]
  rw [hG]
  cases h : W ⟨P,pol,g,fn.ntmps,none⟩ c ⟨H.next,fun i => args.getD i .any,fun _ => none,[],⟨H.rows,H.next + 1⟩,rcOf m⟩ with
  | none => simp [dfK]
  | some x =>
    obtain ⟨ex,s⟩:=x
    have he : fn.results.isEmpty = true:=by rw [hr]; rfl
    cases ex <;> cases hd : s.defers <;> first
      | (simp only [dfK,hd,he,Option.bind_some,if_true]; rfl)
      | (simp only [dfK,hd,Option.bind_some,Option.bind_none]; try rfl)
section
variable (P : Program) (pol : Pol) (rs : List ResultVar) (m : Option PV) (f : Nat) (t : Nat → PV) (b : Nat → Option (Nat × List PV)) (ds : List VD) (rc : Rc) (f' : Nat) (t' : Nat → PV) (b' : Nat → Option (Nat × List PV)) (H : Heap) (rc' : Rc)
theorem dfK_normal : dfK P pol rs m f t b ds rc (some (.normal,⟨f',t',b',[],H,rc'⟩)) = endK P pol rs (afterRc rc' m) ⟨f,t,b,ds,H,rc⟩:=rfl
theorem dfK_ret : dfK P pol rs m f t b ds rc (some (.ret,⟨f',t',b',[],H,rc'⟩)) = endK P pol rs (afterRc rc' m) ⟨f,t,b,ds,H,rc⟩:=rfl
theorem dfK_ite (p : Prop) [Decidable p] (x y : Option (Ex × St)) : dfK P pol rs m f t b ds rc (if p then x else y) = if p then dfK P pol rs m f t b ds rc x else dfK P pol rs m f t b ds rc y:=by split <;> rfl
theorem afterRc_done : afterRc .done m = none:=rfl
theorem afterRc_no : afterRc .no m = m:=rfl
theorem afterRc_pan (v : PV) : afterRc (.pan v) m = m:=rfl
theorem rcOf_some (v : PV) : rcOf (some v) = .pan v:=rfl
theorem rcOf_none : rcOf none = .no:=rfl
end
def taK (t : Nat) (ok : Bool) (x : PV) : Option TypeDesc → Option PV
  | some (.interface _) | none => none
  | some _ => match x with
      | .iface u v => if u = t then some (if ok = true then .tup [v,.bool true] else v) else none
      | _ => none
theorem op_typeAssert (cx : Ctx) (s : St) (d : Option Nat) (ty : Nat) (pos : String) (aft : Array Edge) (g : Option (Nat × Bool)) (x : Operand) (u t : Nat) (ok : Bool) : opV G cx ⟨d,.typeAssert x u t ok,ty,pos,aft,g⟩ s = valO s (taK t ok (evS s x) (cx.P.underlying t)):=by
  simp only [opV,pureOp,valO,taK]
  cases cx.P.underlying t with
  | none => rfl
  | some a => cases a <;> rfl
theorem taK_int (t : Nat) (ok : Bool) (u : Nat) (v : PV) (k : IntKind) : taK t ok (.iface u v) (some (.int k)) = if u = t then some (if ok = true then .tup [v,.bool true] else v) else none:=rfl
theorem mf_typeAssert (cx : Ctx) (s : St) (d : Option Nat) (ty : Nat) (pos : String) (aft : Array Edge) (g : Option (Nat × Bool)) (x : Operand) (u t : Nat) (ok : Bool) : mf cx ⟨d,.typeAssert x u t ok,ty,pos,aft,g⟩ s = some ([],[]):=rfl
theorem BRU : (type_of% @atL_zero ∧ type_of% @atL_succ ∧ type_of% @permL_nil ∧ type_of% @permL_cons ∧ type_of% @consP_some ∧ type_of% @AllEq_nil ∧ type_of% @AllEq_cons ∧ type_of% @exK_none ∧ type_of% @dOp_mf) ∧
    (type_of% @dfK_normal ∧ type_of% @dfK_ret ∧ type_of% @dfK_ite ∧ type_of% @afterRc_done ∧ type_of% @afterRc_no ∧ type_of% @afterRc_pan ∧ type_of% @rcOf_some ∧ type_of% @rcOf_none ∧ type_of% @op_typeAssert ∧ type_of% @taK_int):=
  ⟨⟨@atL_zero,@atL_succ,@permL_nil,@permL_cons,@consP_some,@AllEq_nil,@AllEq_cons,@exK_none,@dOp_mf⟩,⟨@dfK_normal,@dfK_ret,@dfK_ite,@afterRc_done,@afterRc_no,@afterRc_pan,@rcOf_some,@rcOf_none,@op_typeAssert,@taK_int⟩⟩
end GoV
namespace GoV
open Go
section
variable {κ : Type} [DecidableEq κ]
def kmap (enc : κ → PV) (m : List (κ × PV)) : List (PV × PV):=m.map fun e => (enc e.1,e.2)
def aix : List (κ × PV) → κ → Nat → Option (Nat × PV)
  | [],_,_ => none
  | e :: es,k,i => if k = e.1 then some (i,e.2) else aix es k (i + 1)
def aget : List (κ × PV) → κ → Option PV
  | [],_ => none
  | e :: es,k => if k = e.1 then some e.2 else aget es k
def aset : List (κ × PV) → κ → PV → List (κ × PV)
  | [],k,v => [(k,v)]
  | e :: es,k,v => if k = e.1 then (k,v) :: es else e :: aset es k v
structure KeyT (P : Program) (t : Nat) (enc : κ → PV) : Prop where
  chk : ∀ k,keyChk P t (enc k) = true
  eq : ∀ a b,eqPV P Op.maxDepth t (enc a) (enc b) = some (decide (a = b))
  pl : ∀ a,plainEq (enc a) (enc a) = true
theorem find_kmap {P : Program} {t : Nat} {enc : κ → PV} (h : KeyT P t enc) (m : List (κ × PV)) (k : κ) : ∀ j,findPV P t (enc k) (kmap enc m) j = some (aix m k j):=by
  induction m with
  | nil => intro j; rfl
  | cons e es ih =>
    intro j
    show ((eqPV P Op.maxDepth t (enc k) (enc e.1)).bind fun b => if b = true then some (some (j,e.2)) else findPV P t (enc k) (kmap enc es) (j + 1)) = _
    rw [h.eq]
    by_cases hk : k = e.1
    · simp [hk,aix]
    · simp [hk,aix,ih]
theorem aix_get (m : List (κ × PV)) (k : κ) : ∀ j,(aix m k j).map (·.2) = aget m k:=by
  induction m with
  | nil => intro j; rfl
  | cons e es ih =>
    intro j
    by_cases hk : k = e.1
    · simp [hk,aix,aget]
    · simp [hk,aix,aget,ih]
theorem aix_none (m : List (κ × PV)) (k : κ) : ∀ j,aix m k j = none → ∀ v,aset m k v = m ++ [(k,v)]:=by
  induction m with
  | nil => intro j _ v; rfl
  | cons e es ih =>
    intro j h v
    by_cases hk : k = e.1
    · simp [hk,aix] at h
    · simp only [hk,aix,if_false] at h; simp [aset,hk,ih _ h]
theorem aix_some (m : List (κ × PV)) (k : κ) : ∀ j i w,aix m k j = some (i,w) → j ≤ i ∧ m[i - j]? = some (k,w) ∧ ∀ v,aset m k v = m.set (i - j) (k,v):=by
  induction m with
  | nil => intro j i w h; simp [aix] at h
  | cons e es ih =>
    intro j i w h
    by_cases hk : k = e.1
    · simp only [hk,aix,if_true,Option.some.injEq,Prod.mk.injEq] at h
      obtain ⟨rfl,rfl⟩:=h
      refine ⟨Nat.le_refl _,?_,?_⟩
      · simp [hk]
      · intro v; simp [aset,hk]
    · simp only [hk,aix,if_false] at h
      obtain ⟨h1,h2,h3⟩:=ih _ _ _ h
      have e1 : i - j = (i - (j + 1)) + 1:=by omega
      refine ⟨by omega,?_,?_⟩
      · rw [e1,List.getElem?_cons_succ]; exact h2
      · intro v; rw [e1,List.set_cons_succ]; simp [aset,hk,h3]
theorem aget_aset (m : List (κ × PV)) (k : κ) (v : PV) (k' : κ) : aget (aset m k v) k' = if k' = k then some v else aget m k':=by
  induction m with
  | nil => simp [aset,aget]
  | cons e es ih =>
    by_cases hk : k = e.1
    · simp only [aset,hk,if_true,aget]
      by_cases h2 : k' = e.1 <;> simp [h2]
    · simp only [aset,hk,if_false,aget,ih]
      by_cases h2 : k' = e.1
      · have : ¬ k' = k:=by intro h; exact hk (h ▸ h2)
        simp [h2,this]
        intro h; exact absurd h.symm hk
      · simp [h2]
def lookA (z : PV) (ok : Bool) : Option PV → PV
  | some v => if ok = true then .tup [v,.bool true] else v
  | none => if ok = true then .tup [z,.bool false] else z
theorem lookR_aix (z : PV) (ok : Bool) (m : List (κ × PV)) (k : κ) (j : Nat) : lookR z ok (aix m k j) = lookA z ok (aget m k):=by
  rw [← aix_get m k j]; cases aix m k j <;> rfl
theorem updR_aix {P : Program} {t : Nat} {enc : κ → PV} (h : KeyT P t enc) (m : List (κ × PV)) (k : κ) (v : PV) : updR (enc k) v (kmap enc m) (aix m k 0) = some (kmap enc (aset m k v)):=by
  cases hx : aix m k 0 with
  | none => rw [aix_none m k 0 hx]; simp [updR,kmap]
  | some r =>
    obtain ⟨i,w⟩:=r
    obtain ⟨-,h2,h3⟩:=aix_some m k 0 i w hx
    rw [Nat.sub_zero] at h2 h3
    have hg : (kmap enc m)[i]? = some (enc k,w):=by simp [kmap,h2]
    simp only [updR,hg,Option.bind_some,h.pl,if_true,h3]
    simp [kmap,List.map_set]
theorem lookF_kmap {P : Program} {t : Nat} {enc : κ → PV} (h : KeyT P t enc) (s : St) (z : PV) (ok : Bool) (k : κ) (m : List (κ × PV)) : lookF s z ok (findPV P t (enc k) (kmap enc m) 0) = some (.val (lookA z ok (aget m k)) s):=by
  rw [find_kmap h]; simp only [lookF,Option.map_some,lookR_aix]
theorem updG_kmap {P : Program} {t : Nat} {enc : κ → PV} (h : KeyT P t enc) (s : St) (id : Nat) (k : κ) (v : PV) (m : List (κ × PV)) : updG s id (enc k) v (kmap enc m) (findPV P t (enc k) (kmap enc m) 0) = updF s id (some (kmap enc (aset m k v))):=by
  rw [find_kmap h]; simp only [updG,Option.bind_some,updR_aix h]
end
theorem lookA_some (z v : PV) : lookA z true (some v) = .tup [v,.bool true] ∧ lookA z false (some v) = v:=⟨rfl,rfl⟩
theorem lookA_none (z : PV) : lookA z true none = .tup [z,.bool false] ∧ lookA z false none = z:=⟨rfl,rfl⟩
abbrev imap (m : List (Int × PV)) : List (PV × PV):=kmap (PV.int .i64) m
theorem keyT_int {P : Program} {t : Nat} (h : P.underlying t = some (.int .i64)) : KeyT P t (PV.int .i64):=by
  refine ⟨fun k => ?_,fun a b => ?_,fun a => ?_⟩
  · simp only [keyChk,h]
  · show eqPV P (_ + 1) t _ _ = _
    simp [eqPV,h,BEq.beq]
    try by_cases a = b <;> simp_all
  · simp [plainEq,plainC]
theorem keyChk_int {P : Program} {t : Nat} (h : P.underlying t = some (.int .i64)) (k : Int) : keyChk P t (.int .i64 k) = true:=(keyT_int h).chk k
theorem look_imap {P : Program} {t : Nat} (h : P.underlying t = some (.int .i64)) (s : St) (z : PV) (ok : Bool) (k : Int) (m : List (Int × PV)) : lookF s z ok (findPV P t (.int .i64 k) (kmap (PV.int .i64) m) 0) = some (.val (lookA z ok (aget m k)) s):=lookF_kmap (keyT_int h) s z ok k m
theorem upd_imap {P : Program} {t : Nat} (h : P.underlying t = some (.int .i64)) (s : St) (id : Nat) (k : Int) (v : PV) (m : List (Int × PV)) : updG s id (.int .i64 k) v (kmap (PV.int .i64) m) (findPV P t (.int .i64 k) (kmap (PV.int .i64) m) 0) = updF s id (some (kmap (PV.int .i64) (aset m k v))):=updG_kmap (keyT_int h) s id k v m
theorem MAPI : type_of% @keyChk_int ∧ type_of% @look_imap ∧ type_of% @upd_imap ∧ type_of% lookA_some ∧ type_of% lookA_none:=⟨@keyChk_int,@look_imap,@upd_imap,lookA_some,lookA_none⟩
end GoV
namespace GoV
open Go
def renV (f : Nat → Nat) : Vr → Vr
  | .row i => .row (f i)
  | v => v
def renM (f : Nat → Nat) (m : MF) : MF:=(m.1.map (renV f),m.2.map (renV f))
def renL (f : Nat → Nat) (l : List (Nat × MF)) : List (Nat × MF):=l.map fun p => (p.1,renM f p.2)
section
variable {f : Nat → Nat} (hf : ∀ a b,f a = f b → a = b)
include hf
theorem clash_ren (a b : Vr) : clash (renV f a) (renV f b) = clash a b:=by
  cases a <;> cases b <;> try rfl
  rename_i i j
  simp only [renV,clash,Vr.row.injEq]
  by_cases h : i = j
  · simp [h]
  · simp only [h,decide_false,decide_eq_false_iff_not]
    exact fun g => h (hf _ _ g)
theorem disj_ren (a b : List Vr) : disj (a.map (renV f)) (b.map (renV f)) = disj a b:=by
  unfold disj
  rw [List.all_map]
  congr 1
  funext x
  simp only [Function.comp_apply]
  rw [List.all_map]
  congr 1
  funext y
  simp only [Function.comp_apply,clash_ren hf]
theorem chk1_ren (ops : Array Oper) (j : Nat) (w : List Vr) : ∀ l : List (Nat × MF),chk1 ops j (w.map (renV f)) (renL f l) = chk1 ops j w l
  | [] => rfl
  | (i,m) :: r => by
    show ((Nat.beq i j || disj (w.map (renV f)) (m.1.map (renV f) ++ m.2.map (renV f)) || _) && chk1 ops j (w.map (renV f)) (renL f r)) = _
    rw [chk1_ren ops j w r,← List.map_append,disj_ren hf]; rfl
theorem chkL_ren (ops : Array Oper) (a : List (Nat × MF)) : ∀ l : List (Nat × MF),chkL ops (renL f a) (renL f l) = chkL ops a l
  | [] => rfl
  | (j,(q,w)) :: r => by
    have ih:=chkL_ren ops a r
    cases w with
    | nil => exact ih
    | cons x w =>
      show (chk1 ops j ((x :: w).map (renV f)) (renL f a) && chkL ops (renL f a) (renL f r)) = _
      rw [ih,chk1_ren hf]; rfl
end
def swp (k g i : Nat) : Nat:=if i = k then g else if i = g then k else i
theorem swp_inj (k g a b : Nat) (h : swp k g a = swp k g b) : a = b:=by
  unfold swp at h
  split at h <;> split at h <;> (try split at h) <;> (try split at h) <;> omega
theorem chkL_at (ops : Array Oper) (L : Nat → List (Nat × MF)) (k g : Nat) (h : renL (swp k g) (L k) = L g) (hk : chkL ops (L k) (L k) = true) : chkL ops (L g) (L g) = true:=by
  rw [← h,chkL_ren (swp_inj k g)]; exact hk
end GoV
namespace GoV
open Go
theorem BZ : ((∀ p : Prop,(p ∧ p) = p) ∧ (∀ p : Prop,(True ∧ p) = p) ∧ (∀ p : Prop,(p ∧ True) = p) ∧ (∀ p : Prop,(p ∨ False) = p) ∧ (∀ p : Prop,(False ∨ p) = p)) ∧
    ((∀ (p : Prop) [Decidable p],(decide p = true) = p) ∧ decide True = true ∧ decide False = false ∧ (¬ False) = True ∧ (¬ True) = False) ∧
    ((!true) = false ∧ (!false) = true ∧ (false = true) = False ∧ (∀ (α : Type) (a b : α),(a ≠ b) = ¬ (a = b))):=
  ⟨⟨and_self,true_and,and_true,or_false,false_or⟩,⟨@decide_eq_true_eq,rfl,rfl,not_false_eq_true,not_true_eq_false⟩,rfl,rfl,Bool.false_eq_true,fun _ _ _ => rfl⟩
def sliceO : Option TypeDesc → Option Bool → Option PV
  | some (.slice _),some b => some (.bool b)
  | _,_ => none
def sliceN : Option TypeDesc → Option Bool → Option PV
  | some (.slice _),some b => some (.bool !b)
  | _,_ => none
theorem sliceO_some (e : TypeId) (b : Bool) : sliceO (some (.slice e)) (some b) = some (.bool b):=rfl
theorem sliceN_some (e : TypeId) (b : Bool) : sliceN (some (.slice e)) (some b) = some (.bool !b):=rfl
section
variable {P : Program} {t : TypeId} {xo yo : Operand}
theorem eqPV_nil (x : PV) (hx : ∀ a,x = .agg a → False) : eqOp P t xo yo x .nils = match P.underlying t with
    | some (.slice _) => nilq x
    | _ => none:=by
  have e : eqOp P t xo yo x .nils = eqPV P (9999 + 1) t x .nils:=by
    unfold eqOp
    split
    · next h => cases h
    · next h => cases h
    · rfl
  rw [e]
  cases h : P.underlying t with
  | none => simp [eqPV,h]
  | some d => cases d <;> cases x <;> simp [eqPV,h]
theorem bin_nil_nils : binPV P .eql t xo yo .nils .nils = sliceO (P.underlying t) (some true) ∧ binPV P .neq t xo yo .nils .nils = sliceN (P.underlying t) (some true):=by
  simp only [binPV,eqPV_nil (P:=P) .nils (by simp)]
  cases h : P.underlying t with
  | none => simp [sliceO,sliceN]
  | some d => cases d <;> simp [sliceO,sliceN,nilq]
theorem bin_nil_vs (sz : Nat) (e : PV) (es : List PV) (c : Option Nat) : binPV P .eql t xo yo (.vs sz (e :: es) c) .nils = sliceO (P.underlying t) (some false) ∧ binPV P .neq t xo yo (.vs sz (e :: es) c) .nils = sliceN (P.underlying t) (some false):=by
  simp only [binPV,eqPV_nil (P:=P) (.vs sz (e :: es) c) (by simp)]
  cases h : P.underlying t with
  | none => simp [sliceO,sliceN]
  | some d => cases d <;> simp [sliceO,sliceN,nilq]
theorem bin_nil_vs0 (sz k : Nat) : binPV P .eql t xo yo (.vs sz [] (some k)) .nils = sliceO (P.underlying t) (some false) ∧ binPV P .neq t xo yo (.vs sz [] (some k)) .nils = sliceN (P.underlying t) (some false):=by
  simp only [binPV,eqPV_nil (P:=P) (.vs sz [] (some k)) (by simp)]
  cases h : P.underlying t with
  | none => simp [sliceO,sliceN]
  | some d => cases d <;> simp [sliceO,sliceN,nilq]
end
theorem NILC : type_of% sliceO_some ∧ type_of% sliceN_some ∧ type_of% @bin_nil_nils ∧ type_of% @bin_nil_vs ∧ type_of% @bin_nil_vs0:=⟨sliceO_some,sliceN_some,@bin_nil_nils,@bin_nil_vs,@bin_nil_vs0⟩
end GoV
