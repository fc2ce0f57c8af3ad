/- Eb: merged out of KIf, KIg, KIh, KIi, KIj, KIk, KIl. -/
import Derived.Test.YtmpcaeidpofoiaaGreatDoorEa
import Derived.Test.YtmpcaeidpofoiaaGreatDoorBa
import Derived.Test.YtmpcaeidpofoiaaGreatDoorCa
import Derived.Test.YtmpcaeidpofoiaaGreatDoorAc

/- What the program's look at an address comes to. -/
section
set_option maxRecDepth 100000
set_option linter.unusedVariables false
set_option linter.unusedSectionVars false
set_option linter.unusedSimpArgs false
namespace Go.Proofs
open Go.PW Go.KP
variable [GH]

/-- Where the look stands. -/
structure IO (st : St) (u : LUrl) : Prop where
  e1 : st.env 1 = .ptr 1 0
  m1 : st.mem 1 = .box (urlCells u)

section
variable {Ks : Kx (St → Prop)} {kx : Kx (RV → St → Prop)} {st : St} {u : LUrl} {b : Bool}
def ib109 (u : LUrl) : Bool := u.hasF || decide (u.frag = [])
theorem iops109 (h : IO st u) (hb : st.env 108 = .val (.bool b)) (hK : ∀ st', IO st' u → st'.env 116 = .val (.bool (b && ib109 u)) → Ks.k st') : EX Tryz.prog ir153_o109 st (Ks := Ks) := by
  unfold ir153_o109
  have e3 : (⟨#[]⟩ : ByteArray) = bs [] := rfl
  cases b with
  | false =>
    simp [hb]
    refine hK _ ⟨?_, ?_⟩ ?_ <;> simp [h.e1, h.m1]
  | true =>
    cases hf : u.hasF with
    | true =>
      simp [RV.cells, RV.one, PV.cells, PV.solid, PV.one, vals?, allVal, mkAgg, setAt, RV.ofCells, elems, PV.killL, List.all_cons, List.all_nil, hb, h.e1, h.m1, urlCells, tx, num, hf]
      refine hK _ ⟨?_, ?_⟩ ?_ <;> simp [h.e1, h.m1, ib109, hf]
    | false =>
      simp [RV.cells, RV.one, PV.cells, PV.solid, PV.one, vals?, allVal, mkAgg, setAt, RV.ofCells, elems, PV.killL, List.all_cons, List.all_nil, hb, h.e1, h.m1, urlCells, tx, num, hf, e3, bs_inj]
      refine hK _ ⟨?_, ?_⟩ ?_ <;> simp [h.e1, h.m1, ib109, hf]

def ib100 (u : LUrl) : Bool := (u.hasQ || decide (u.query = [])) && ib109 u
theorem iops100 (h : IO st u) (hb : st.env 99 = .val (.bool b)) (hK : ∀ st', IO st' u → st'.env 116 = .val (.bool (b && ib100 u)) → Ks.k st') : EX Tryz.prog ir153_o100 st (Ks := Ks) := by
  unfold ir153_o100
  have e3 : (⟨#[]⟩ : ByteArray) = bs [] := rfl
  cases b with
  | false =>
    simp [hb]
    refine iops109 (u := u) (b := false) ⟨?_, ?_⟩ ?_ (fun st' q1 q2 => hK st' q1 (by simpa using q2)) <;> simp [h.e1, h.m1]
  | true =>
    cases hq : u.hasQ with
    | true =>
      simp [RV.cells, RV.one, PV.cells, PV.solid, PV.one, vals?, allVal, mkAgg, setAt, RV.ofCells, elems, PV.killL, List.all_cons, List.all_nil, hb, h.e1, h.m1, urlCells, tx, num, hq]
      refine iops109 (u := u) (b := true) ⟨?_, ?_⟩ ?_ (fun st' q1 q2 => hK st' q1 (by rw [q2]; simp [ib100, hq])) <;> simp [h.e1, h.m1]
    | false =>
      simp [RV.cells, RV.one, PV.cells, PV.solid, PV.one, vals?, allVal, mkAgg, setAt, RV.ofCells, elems, PV.killL, List.all_cons, List.all_nil, hb, h.e1, h.m1, urlCells, tx, num, hq, e3, bs_inj]
      refine iops109 (u := u) (b := decide (u.query = [])) ⟨?_, ?_⟩ ?_ (fun st' q1 q2 => hK st' q1 (by rw [q2]; simp [ib100, hq])) <;> simp [h.e1, h.m1]

def ib94 (u : LUrl) : Bool := !decide (35 ∈ u.query) && ib100 u
theorem iops94 (h : IO st u) (hb : st.env 93 = .val (.bool b)) (hK : ∀ st', IO st' u → st'.env 116 = .val (.bool (b && ib94 u)) → Ks.k st') : EX Tryz.prog ir153_o94 st (Ks := Ks) := by
  unfold ir153_o94
  have e3 : (⟨#[35]⟩ : ByteArray) = bs [35] := rfl
  have e4 : (⟨#[47]⟩ : ByteArray) = bs [47] := rfl
  cases b with
  | false =>
    simp [hb]
    refine iops100 (u := u) (b := false) ⟨?_, ?_⟩ ?_ (fun st' q1 q2 => hK st' q1 (by simpa using q2)) <;> simp [h.e1, h.m1]
  | true =>
    simp [RV.cells, RV.one, PV.cells, PV.solid, PV.one, vals?, allVal, mkAgg, setAt, RV.ofCells, elems, PV.killL, List.all_cons, List.all_nil, hb, h.e1, h.m1, urlCells, tx, num, e3, e4]
    refine callX_val rfl rfl (.inl rfl) (c_Contains u.query 35) ?_
    simp [RV.cells, RV.one, PV.cells, PV.solid, PV.one, vals?, allVal, mkAgg, setAt, RV.ofCells, elems, PV.killL, List.all_cons, List.all_nil, hb, h.e1, h.m1, urlCells, tx, num]
    refine iops100 (u := u) (b := !decide (35 ∈ u.query)) ⟨?_, ?_⟩ ?_ (fun st' q1 q2 => hK st' q1 (by rw [q2]; simp [ib94])) <;> simp [h.e1, h.m1, bne]

def ib89 (u : LUrl) : Bool := ([47] : Tx).isPrefixOf u.path && ib94 u
theorem iops89 (h : IO st u) (hb : st.env 88 = .val (.bool b)) (hK : ∀ st', IO st' u → st'.env 116 = .val (.bool (b && ib89 u)) → Ks.k st') : EX Tryz.prog ir153_o89 st (Ks := Ks) := by
  unfold ir153_o89
  have e3 : (⟨#[35]⟩ : ByteArray) = bs [35] := rfl
  have e4 : (⟨#[47]⟩ : ByteArray) = bs [47] := rfl
  cases b with
  | false =>
    simp [hb]
    refine iops94 (u := u) (b := false) ⟨?_, ?_⟩ ?_ (fun st' q1 q2 => hK st' q1 (by simpa using q2)) <;> simp [h.e1, h.m1]
  | true =>
    simp [RV.cells, RV.one, PV.cells, PV.solid, PV.one, vals?, allVal, mkAgg, setAt, RV.ofCells, elems, PV.killL, List.all_cons, List.all_nil, hb, h.e1, h.m1, urlCells, tx, num, e3, e4]
    refine callX_val rfl rfl (.inl rfl) (c_HasPrefix u.path [47]) ?_
    simp [RV.cells, RV.one, PV.cells, PV.solid, PV.one, vals?, allVal, mkAgg, setAt, RV.ofCells, elems, PV.killL, List.all_cons, List.all_nil, hb, h.e1, h.m1, urlCells, tx, num]
    refine iops94 (u := u) (b := ([47] : Tx).isPrefixOf u.path) ⟨?_, ?_⟩ ?_ (fun st' q1 q2 => hK st' q1 (by rw [q2]; simp [ib89])) <;> simp [h.e1, h.m1, bne]

def ib81 (u : LUrl) : Bool := !(u.port == lusual u.scheme) && ib89 u
theorem iops81 (h : IO st u) (hb : st.env 80 = .val (.bool b)) (hK : ∀ st', IO st' u → st'.env 116 = .val (.bool (b && ib81 u)) → Ks.k st') : EX Tryz.prog ir153_o81 st (Ks := Ks) := by
  unfold ir153_o81
  have e3 : (⟨#[35]⟩ : ByteArray) = bs [35] := rfl
  have e4 : (⟨#[47]⟩ : ByteArray) = bs [47] := rfl
  cases b with
  | false =>
    simp [hb]
    refine iops89 (u := u) (b := false) ⟨?_, ?_⟩ ?_ (fun st' q1 q2 => hK st' q1 (by simpa using q2)) <;> simp [h.e1, h.m1]
  | true =>
    simp [RV.cells, RV.one, PV.cells, PV.solid, PV.one, vals?, allVal, mkAgg, setAt, RV.ofCells, elems, PV.killL, List.all_cons, List.all_nil, hb, h.e1, h.m1, urlCells, tx, num, e3, e4]
    refine callX_val rfl rfl (.inl rfl) (i_usual u.scheme) ?_
    simp [RV.cells, RV.one, PV.cells, PV.solid, PV.one, vals?, allVal, mkAgg, setAt, RV.ofCells, elems, PV.killL, List.all_cons, List.all_nil, hb, h.e1, h.m1, urlCells, tx, num]
    refine iops89 (u := u) (b := !(u.port == lusual u.scheme)) ⟨?_, ?_⟩ ?_ (fun st' q1 q2 => hK st' q1 (by rw [q2]; simp [ib81])) <;> simp [h.e1, h.m1, bne]

def ib76 (u : LUrl) : Bool := decide (0 ≤ u.port ∧ u.port ≤ 65535) && ib81 u
theorem iops76 (h : IO st u) (hb : st.env 75 = .val (.bool b)) (hK : ∀ st', IO st' u → st'.env 116 = .val (.bool (b && ib76 u)) → Ks.k st') : EX Tryz.prog ir153_o76 st (Ks := Ks) := by
  unfold ir153_o76
  have e3 : (⟨#[35]⟩ : ByteArray) = bs [35] := rfl
  have e4 : (⟨#[47]⟩ : ByteArray) = bs [47] := rfl
  cases b with
  | false =>
    simp [hb]
    refine iops81 (u := u) (b := false) ⟨?_, ?_⟩ ?_ (fun st' q1 q2 => hK st' q1 (by simpa using q2)) <;> simp [h.e1, h.m1]
  | true =>
    simp [RV.cells, RV.one, PV.cells, PV.solid, PV.one, vals?, allVal, mkAgg, setAt, RV.ofCells, elems, PV.killL, List.all_cons, List.all_nil, hb, h.e1, h.m1, urlCells, tx, num, e3, e4]
    refine callX_val rfl rfl (.inl rfl) (i_within u.port 0 65535) ?_
    simp [RV.cells, RV.one, PV.cells, PV.solid, PV.one, vals?, allVal, mkAgg, setAt, RV.ofCells, elems, PV.killL, List.all_cons, List.all_nil, hb, h.e1, h.m1, urlCells, tx, num]
    refine iops81 (u := u) (b := decide (0 ≤ u.port ∧ u.port ≤ 65535)) ⟨?_, ?_⟩ ?_ (fun st' q1 q2 => hK st' q1 (by rw [q2]; simp [ib76])) <;> simp [h.e1, h.m1, bne]
end

/-- What is asked of a web address last. -/
def iweb (u : LUrl) : Bool := (!lhasAny u.user [47, 63, 35, 64] && lhost u.host) && ib76 u
theorem iurl_from4 (u : LUrl) (h2 : u.user.length < 1048577) (h3 : u.host.length < 1048577) (hsh : lshown u.user = true) (st : St) (h : IO st u) : EC Tryz.prog ir153_from4 st (K := ⟨RetP [.t 2] (.val (.bool (iweb u)))⟩) := by
  unfold ir153_from4
  have e3 : (⟨#[47, 63, 35, 64]⟩ : ByteArray) = bs [47, 63, 35, 64] := rfl
  have hend : ∀ b, b = (!lhasAny u.user [47, 63, 35, 64] && lhost u.host) → ∀ st', IO st' u → st'.env 116 = .val (.bool (b && ib76 u)) → RetP [.t 2] (.val (.bool (iweb u))) .ret ⟨upd 2 (st'.env 116) st'.env, st'.mem⟩ := fun b hb st' q1 q2 => by
    rw [q2, hb]
    simp [iweb]
  simp [RV.cells, RV.one, PV.cells, PV.solid, PV.one, vals?, allVal, mkAgg, setAt, RV.ofCells, elems, PV.killL, List.all_cons, List.all_nil, h.e1, h.m1, urlCells, tx, num, e3]
  refine callX_val rfl rfl (.inl rfl) (c_ContainsAny u.user [47, 63, 35, 64] (by omega) (by simp) hsh (by decide)) ?_
  cases hu : lhasAny u.user [47, 63, 35, 64] with
  | true =>
    simp [RV.cells, RV.one, PV.cells, PV.solid, PV.one, vals?, allVal, mkAgg, setAt, RV.ofCells, elems, PV.killL, List.all_cons, List.all_nil, h.e1, h.m1, urlCells, tx, num]
    refine iops76 (u := u) (b := false) ⟨?_, ?_⟩ ?_ (fun st' q1 q2 => ?_)
    · simp [h.e1]
    · simp [h.m1]
    · simp
    · simp only [evalC_skip, evalC_reg, evalC_draw, evalC_seq, evalC_cond, evalC_block, evalC_exit, evalC_ret, then_normal, then_exit, then_ret, then_pan, inBlock_normal, inBlock_ret, inBlock_pan, inBlock_exit, condS_bool, evalOps_nil, evalOps_cons, evalX_nil, evalX_cons, guardS_none, guardS_some, setD_some, setD_none, ev_t, ev_k, Option.getD_some, Option.getD_none, stepE_mov, stepE_pick, stepE_alloc, stepE_box, stepE_build, stepE_store, stepE_app, stepE_nilck, stepE_bin, stepE_eqb, stepE_eqs, stepE_un, stepE_conv, stepE_faddr, stepE_fld, stepE_load, stepE_iaddr, stepE_idx, stepE_slc, stepE_ext, stepE_lens, stepE_len, stepE_tostr, stepE_mkfn, stepE_ifc, stepE_mn, stepE_mx, stepE_mks, stepE_isnil, stepE_lit, stepE_call, stepE_callv, stepX_mov, stepX_nilck, stepX_bin, stepX_eqb, stepX_eqs, stepX_un, stepX_conv, stepX_faddr, stepX_fld, stepX_load, stepX_iaddr, stepX_idx, stepX_slc, stepX_ext, stepX_lens, stepX_len, stepX_tostr, stepX_mkfn, stepX_ifc, stepX_mn, stepX_mx, stepX_pick, stepX_build, stepX_lit, stepX_call, stepX_callv, binS_int, binS_str, binI_add, binI_sub, binI_mul, binI_quo, binI_rem, binI_eql, binI_neq, binI_lss, binI_leq, binI_gtr, binI_geq, binStr_add, binStr_eql, binStr_neq, unS_not, unS_neg, upd_app, envOf_nil, envOf_cons, memOf_nil, memOf_cons, RetP_ret, RetP_normal, resP_t, resP_tt, fin_env, frz_val, frz_emp, frz_own, pl_val, pl_emp, kill_val, kill_own, kill_ptr, kill_emp, kill_elt, kill_at, kill_undef, kill_fn, kill_skip, killM_row, killM_box, killM_dead, Kx_k, fillP_nil, fillP_cons, slc_lo, slc_hi, slc_lohi, slcl_lo, slcl_hi, Option.map_some, Option.map_none, iteP_true, iteP_false, onBool_val, onBool_skip, nilck_ptr, nilck_elt, nilck_at, nilck_fn, eqb_val, eqs_val, conv_val, faddr_ptr, faddr_elt, faddr_at, fld_val, fld_agg, load_ptr, loadBox_box, load_elt, loadRow_row, load_at, iaddr_lst, iaddr_own, iaddrRow_row, idx_val, ext_tup, lens_val, len_val, len_emp, len_own, lenRow_row, tostr_val, tostr_emp, tostr_own, tostrRow_row, ifc_val, mn_val, mx_val, lit_some, fn_fn, mks_val, isnil_nilif, isnil_ifc, isnil_emp, isnil_list, isnil_own, isnilRow_row, store_ptrK, storeBox_box, store_eltK, storeRow_row, add_some, app_own, app_emp, appRow_row, addOf_list, addOf_emp, addOf_own, rowOf_row]
      exact hend false (by rw [hu]; rfl) st' q1 q2
  | false =>
    simp [RV.cells, RV.one, PV.cells, PV.solid, PV.one, vals?, allVal, mkAgg, setAt, RV.ofCells, elems, PV.killL, List.all_cons, List.all_nil, h.e1, h.m1, urlCells, tx, num]
    refine callX_val rfl rfl (.inl rfl) (i_isHost u.host (by omega)) ?_
    simp [RV.cells, RV.one, PV.cells, PV.solid, PV.one, vals?, allVal, mkAgg, setAt, RV.ofCells, elems, PV.killL, List.all_cons, List.all_nil, h.e1, h.m1, urlCells, tx, num]
    refine iops76 (u := u) (b := lhost u.host) ⟨?_, ?_⟩ ?_ (fun st' q1 q2 => ?_)
    · simp [h.e1]
    · simp [h.m1]
    · simp
    · simp only [evalC_skip, evalC_reg, evalC_draw, evalC_seq, evalC_cond, evalC_block, evalC_exit, evalC_ret, then_normal, then_exit, then_ret, then_pan, inBlock_normal, inBlock_ret, inBlock_pan, inBlock_exit, condS_bool, evalOps_nil, evalOps_cons, evalX_nil, evalX_cons, guardS_none, guardS_some, setD_some, setD_none, ev_t, ev_k, Option.getD_some, Option.getD_none, stepE_mov, stepE_pick, stepE_alloc, stepE_box, stepE_build, stepE_store, stepE_app, stepE_nilck, stepE_bin, stepE_eqb, stepE_eqs, stepE_un, stepE_conv, stepE_faddr, stepE_fld, stepE_load, stepE_iaddr, stepE_idx, stepE_slc, stepE_ext, stepE_lens, stepE_len, stepE_tostr, stepE_mkfn, stepE_ifc, stepE_mn, stepE_mx, stepE_mks, stepE_isnil, stepE_lit, stepE_call, stepE_callv, stepX_mov, stepX_nilck, stepX_bin, stepX_eqb, stepX_eqs, stepX_un, stepX_conv, stepX_faddr, stepX_fld, stepX_load, stepX_iaddr, stepX_idx, stepX_slc, stepX_ext, stepX_lens, stepX_len, stepX_tostr, stepX_mkfn, stepX_ifc, stepX_mn, stepX_mx, stepX_pick, stepX_build, stepX_lit, stepX_call, stepX_callv, binS_int, binS_str, binI_add, binI_sub, binI_mul, binI_quo, binI_rem, binI_eql, binI_neq, binI_lss, binI_leq, binI_gtr, binI_geq, binStr_add, binStr_eql, binStr_neq, unS_not, unS_neg, upd_app, envOf_nil, envOf_cons, memOf_nil, memOf_cons, RetP_ret, RetP_normal, resP_t, resP_tt, fin_env, frz_val, frz_emp, frz_own, pl_val, pl_emp, kill_val, kill_own, kill_ptr, kill_emp, kill_elt, kill_at, kill_undef, kill_fn, kill_skip, killM_row, killM_box, killM_dead, Kx_k, fillP_nil, fillP_cons, slc_lo, slc_hi, slc_lohi, slcl_lo, slcl_hi, Option.map_some, Option.map_none, iteP_true, iteP_false, onBool_val, onBool_skip, nilck_ptr, nilck_elt, nilck_at, nilck_fn, eqb_val, eqs_val, conv_val, faddr_ptr, faddr_elt, faddr_at, fld_val, fld_agg, load_ptr, loadBox_box, load_elt, loadRow_row, load_at, iaddr_lst, iaddr_own, iaddrRow_row, idx_val, ext_tup, lens_val, len_val, len_emp, len_own, lenRow_row, tostr_val, tostr_emp, tostr_own, tostrRow_row, ifc_val, mn_val, mx_val, lit_some, fn_fn, mks_val, isnil_nilif, isnil_ifc, isnil_emp, isnil_list, isnil_own, isnilRow_row, store_ptrK, storeBox_box, store_eltK, storeRow_row, add_some, app_own, app_emp, appRow_row, addOf_list, addOf_emp, addOf_own, rowOf_row]
      exact hend _ (by rw [hu]; simp) st' q1 q2

/-- What is asked of another address last. -/
def iplain (u : LUrl) : Bool := decide (u.user = []) && decide (u.host = []) && decide (u.port = 0) && decide (u.query = []) && decide (u.frag = []) && !u.hasQ && !u.hasF
theorem eqCells_url (u : LUrl) : eqCells [0, 0, 0, 2, 0, 0, 0, 1, 1] (urlRs u) [tx u.scheme, tx [], tx [], num 0, tx u.path, tx [], tx [], .bool false, .bool false] = some (iplain u) := by
  simp only [urlRs, eqCells, eqCell, tx, num, bs_inj, if_true, decide_true]
  unfold iplain
  have e : (u.port == 0) = decide (u.port = 0) := by rw [Bool.eq_iff_iff]; simp
  rw [e]
  cases decide (u.user = []) <;> cases decide (u.host = []) <;> cases decide (u.port = 0) <;> cases decide (u.query = []) <;> cases decide (u.frag = []) <;> cases u.hasQ <;> cases u.hasF <;> rfl

theorem iurl_from3 (u : LUrl) (h2 : u.user.length < 1048577) (h3 : u.host.length < 1048577) (hsh : lshown u.user = true) (st : St) (h : IO st u) : EC Tryz.prog ir153_from3 st (K := ⟨RetP [.t 2] (.val (.bool (if lweb u.scheme then iweb u else iplain u)))⟩) := by
  unfold ir153_from3
  have e3 : (⟨#[]⟩ : ByteArray) = bs [] := rfl
  simp [RV.cells, RV.one, PV.cells, PV.solid, PV.one, vals?, allVal, mkAgg, setAt, RV.ofCells, elems, PV.killL, List.all_cons, List.all_nil, h.e1, h.m1, urlCells, tx, num, allVal]
  refine callS_val rfl rfl (.inl rfl) (i_web u) ?_
  cases hw : lweb u.scheme with
  | true =>
    simp
    rw [if_pos rfl]
    refine iurl_from4 u h2 h3 hsh _ ⟨?_, ?_⟩ <;> simp [h.e1, h.m1]
  | false =>
    rw [if_neg (by simp)]
    have hq := eqCells_url u
    simp only [urlRs, tx, num] at hq
    simp [RV.cells, RV.one, PV.cells, PV.solid, PV.one, vals?, allVal, mkAgg, setAt, RV.ofCells, elems, PV.killL, List.all_cons, List.all_nil, h.e1, h.m1, urlCells, tx, num, allVal, e3, hq, onSome]

theorem iurl_from2 (u : LUrl) (h2 : u.user.length < 1048577) (h3 : u.host.length < 1048577) (h4 : u.path.length < 1048577) (hsh : lshown u.user = true) (hsp : lshown u.path = true) (st : St) (h : IO st u) : EC Tryz.prog ir153_from2 st (K := ⟨RetP [.t 2] (.val (.bool (!lhasAny u.path [63, 35] && if lweb u.scheme then iweb u else iplain u)))⟩) := by
  unfold ir153_from2
  have e3 : (⟨#[63, 35]⟩ : ByteArray) = bs [63, 35] := rfl
  simp [RV.cells, RV.one, PV.cells, PV.solid, PV.one, vals?, allVal, mkAgg, setAt, RV.ofCells, elems, PV.killL, List.all_cons, List.all_nil, h.e1, h.m1, urlCells, tx, num, e3]
  refine callS_val rfl rfl (.inl rfl) (c_ContainsAny u.path [63, 35] (by omega) (by simp) hsp (by decide)) ?_
  cases hp : lhasAny u.path [63, 35] with
  | true => simp
  | false =>
    simp only [Bool.not_false, Bool.true_and]
    simp
    refine iurl_from3 u h2 h3 hsh _ ⟨?_, ?_⟩ <;> simp [h.e1, h.m1]

section
variable {Ks : Kx (St → Prop)} {kx : Kx (RV → St → Prop)} {st : St} {u : LUrl} {b : Bool}
/-- Small enough for the library. -/
structure Tiny (u : LUrl) : Prop where
  s1 : u.scheme.length < 1048577
  s2 : u.user.length < 1048577
  s3 : u.host.length < 1048577
  s4 : u.path.length < 1048577
  s5 : u.query.length < 1048577
  s6 : u.frag.length < 1048577
  p0 : -9223372036854775808 ≤ u.port
  p1 : u.port ≤ 9223372036854775807
theorem Tiny.small (h : Tiny u) : u.Small := by
  obtain ⟨s1, s2, s3, s4, s5, s6, p0, p1⟩ := h
  exact ⟨by omega, by omega, by omega, by omega, by omega, by omega, p1⟩

def ib36 (u : LUrl) : Bool := !lshown (u.user ++ u.host ++ u.path ++ u.query ++ u.frag)
theorem iops36 (hs : Tiny u) (h : IO st u) (hb : st.env 35 = .val (.bool b)) (hK : ∀ st', IO st' u → st'.env 52 = .val (.bool (b || ib36 u)) → Ks.k st') : EO Tryz.prog ir153_o36 st (Ks := Ks) (kx := kx) := by
  unfold ir153_o36
  obtain ⟨s1, s2, s3, s4, s5, s6, p0, p1⟩ := hs
  cases b with
  | true =>
    simp [hb]
    refine hK _ ⟨?_, ?_⟩ ?_ <;> simp [h.e1, h.m1]
  | false =>
    simp [RV.cells, RV.one, PV.cells, PV.solid, PV.one, vals?, allVal, mkAgg, setAt, RV.ofCells, elems, PV.killL, List.all_cons, List.all_nil, hb, h.e1, h.m1, urlCells, tx, num, bs_size, bs_append]
    refine ⟨by omega, by omega, by omega, by omega, ?_⟩
    refine callS_val rfl rfl (.inl rfl) (i_areShown (u.user ++ (u.host ++ (u.path ++ (u.query ++ u.frag)))) (by simp; omega)) ?_
    simp [RV.cells, RV.one, PV.cells, PV.solid, PV.one, vals?, allVal, mkAgg, setAt, RV.ofCells, elems, PV.killL, List.all_cons, List.all_nil, hb]
    refine hK _ ⟨?_, ?_⟩ ?_ <;> simp [h.e1, h.m1, ib36]

def ib30 (u : LUrl) : Bool := decide (100 < (itext u).length) || ib36 u
theorem iops30 (hs : Tiny u) (h : IO st u) (hb : st.env 29 = .val (.bool b)) (hK : ∀ st', IO st' u → st'.env 52 = .val (.bool (b || ib30 u)) → Ks.k st') : EO Tryz.prog ir153_o30 st (Ks := Ks) (kx := kx) := by
  unfold ir153_o30
  cases b with
  | true =>
    simp [hb]
    refine iops36 (u := u) (b := true) hs ⟨?_, ?_⟩ ?_ (fun st' q1 q2 => hK st' q1 (by simpa using q2)) <;> simp [h.e1, h.m1]
  | false =>
    have e : ((100 : Int) < ((itext u).length : Int)) ↔ 100 < (itext u).length := by omega
    simp [RV.cells, RV.one, PV.cells, PV.solid, PV.one, vals?, allVal, mkAgg, setAt, RV.ofCells, elems, PV.killL, List.all_cons, List.all_nil, hb, h.e1, h.m1, urlCells, tx, num, allVal]
    refine callS_val rfl rfl (.inl rfl) (i_text u hs.small hs.p0) ?_
    simp [RV.cells, RV.one, PV.cells, PV.solid, PV.one, vals?, allVal, mkAgg, setAt, RV.ofCells, elems, PV.killL, List.all_cons, List.all_nil, hb, tx, bs_size, e]
    refine iops36 (u := u) (b := decide (100 < (itext u).length)) hs ⟨?_, ?_⟩ ?_ (fun st' q1 q2 => hK st' q1 (by rw [q2]; simp [ib30])) <;> simp [h.e1, h.m1]
end

theorem iurlOK_parts (u : LUrl) : iurlOK u = (lscheme u.scheme && decide (u.user.length + u.host.length + u.path.length + u.query.length + u.frag.length ≤ 100) && !ib30 u && (!lhasAny u.path [63, 35] && if lweb u.scheme then iweb u else iplain u)) := by
  unfold iurlOK ib30 ib36 iweb iplain ib76 ib81 ib89 ib94 ib100 ib109
  have e1 : decide ((itext u).length ≤ 100) = !decide (100 < (itext u).length) := by
    by_cases h : (itext u).length ≤ 100
    · rw [decide_eq_true h, decide_eq_false (by omega)]; rfl
    · rw [decide_eq_false h, decide_eq_true (by omega)]; rfl
  have e2 : ([47] : Tx).isPrefixOf u.path = (decide (0 < u.path.length) && decide ((u.path.getD 0 0).toNat = 47)) := by
    cases u.path with
    | nil => rfl
    | cons c r =>
      rw [Bool.eq_iff_iff]
      simp
      constructor
      · intro h; rw [← h]; rfl
      · intro h; exact (UInt8.toNat_inj.1 (by rw [h]; rfl)).symm
  have e3 : (u.port == lusual u.scheme) = decide (u.port = lusual u.scheme) := by rw [Bool.eq_iff_iff]; simp
  have e4 : decide (u.port ≠ lusual u.scheme) = !decide (u.port = lusual u.scheme) := by simp
  have e5 : lhasAny u.query [35] = decide (35 ∈ u.query) := by
    rw [Bool.eq_iff_iff]
    simp [lhasAny]
  rw [e1, e2, e3, e4, e5]
  cases lscheme u.scheme <;> simp only [Bool.false_and, Bool.true_and]
  cases decide (u.user.length + u.host.length + u.path.length + u.query.length + u.frag.length ≤ 100) <;> simp only [Bool.false_and, Bool.true_and]
  cases decide (100 < (itext u).length) <;> simp only [Bool.false_and, Bool.true_and, Bool.not_true, Bool.not_false, Bool.true_or, Bool.false_or]
  cases lshown (u.user ++ u.host ++ u.path ++ u.query ++ u.frag) <;> simp only [Bool.false_and, Bool.true_and, Bool.not_true, Bool.not_false]
  cases lhasAny u.path [63, 35] <;> simp only [Bool.false_and, Bool.true_and, Bool.not_true, Bool.not_false]
  split
  · simp only [Bool.and_assoc]
  · rfl

/-- The bytes of an address but for its scheme. -/
def usum (u : LUrl) : Nat := u.user.length + u.host.length + u.path.length + u.query.length + u.frag.length
def utail (u : LUrl) : Bool := !lhasAny u.path [63, 35] && if lweb u.scheme then iweb u else iplain u

theorem iurl_end (u : LUrl) (hs : Tiny u) (b : Bool) (st' : St) (q1 : IO st' u) (q2 : st'.env 52 = .val (.bool (b || ib30 u))) (res : Bool) (hres : res = (!(b || ib30 u) && utail u)) :
    CD (st'.env 52) (A := ⟨EC Tryz.prog (.seq (.reg [⟨some 2, .mov (.k (.val (.bool false))), none⟩]) .ret) st' (K := ⟨fun e st' => ET e st' (Ks := ⟨fun st' => EC Tryz.prog ir153_from2 st' (K := ⟨RetP [.t 2] (.val (.bool res))⟩)⟩) (K := ⟨RetP [.t 2] (.val (.bool res))⟩)⟩)⟩)
        (B := ⟨EC Tryz.prog .skip st' (K := ⟨fun e st' => ET e st' (Ks := ⟨fun st' => EC Tryz.prog ir153_from2 st' (K := ⟨RetP [.t 2] (.val (.bool res))⟩)⟩) (K := ⟨RetP [.t 2] (.val (.bool res))⟩)⟩)⟩) := by
  rw [q2]
  cases hbb : (b || ib30 u) with
  | true =>
    rw [hbb] at hres
    have : res = false := hres
    subst this
    simp
  | false =>
    rw [hbb] at hres
    have : res = utail u := hres
    subst this
    simp only [evalC_skip, evalC_reg, evalC_draw, evalC_seq, evalC_cond, evalC_block, evalC_exit, evalC_ret, then_normal, then_exit, then_ret, then_pan, inBlock_normal, inBlock_ret, inBlock_pan, inBlock_exit, condS_bool, evalOps_nil, evalOps_cons, evalX_nil, evalX_cons, guardS_none, guardS_some, setD_some, setD_none, ev_t, ev_k, Option.getD_some, Option.getD_none, stepE_mov, stepE_pick, stepE_alloc, stepE_box, stepE_build, stepE_store, stepE_app, stepE_nilck, stepE_bin, stepE_eqb, stepE_eqs, stepE_un, stepE_conv, stepE_faddr, stepE_fld, stepE_load, stepE_iaddr, stepE_idx, stepE_slc, stepE_ext, stepE_lens, stepE_len, stepE_tostr, stepE_mkfn, stepE_ifc, stepE_mn, stepE_mx, stepE_mks, stepE_isnil, stepE_lit, stepE_call, stepE_callv, stepX_mov, stepX_nilck, stepX_bin, stepX_eqb, stepX_eqs, stepX_un, stepX_conv, stepX_faddr, stepX_fld, stepX_load, stepX_iaddr, stepX_idx, stepX_slc, stepX_ext, stepX_lens, stepX_len, stepX_tostr, stepX_mkfn, stepX_ifc, stepX_mn, stepX_mx, stepX_pick, stepX_build, stepX_lit, stepX_call, stepX_callv, binS_int, binS_str, binI_add, binI_sub, binI_mul, binI_quo, binI_rem, binI_eql, binI_neq, binI_lss, binI_leq, binI_gtr, binI_geq, binStr_add, binStr_eql, binStr_neq, unS_not, unS_neg, upd_app, envOf_nil, envOf_cons, memOf_nil, memOf_cons, RetP_ret, RetP_normal, resP_t, resP_tt, fin_env, frz_val, frz_emp, frz_own, pl_val, pl_emp, kill_val, kill_own, kill_ptr, kill_emp, kill_elt, kill_at, kill_undef, kill_fn, kill_skip, killM_row, killM_box, killM_dead, Kx_k, fillP_nil, fillP_cons, slc_lo, slc_hi, slc_lohi, slcl_lo, slcl_hi, Option.map_some, Option.map_none, iteP_true, iteP_false, onBool_val, onBool_skip, nilck_ptr, nilck_elt, nilck_at, nilck_fn, eqb_val, eqs_val, conv_val, faddr_ptr, faddr_elt, faddr_at, fld_val, fld_agg, load_ptr, loadBox_box, load_elt, loadRow_row, load_at, iaddr_lst, iaddr_own, iaddrRow_row, idx_val, ext_tup, lens_val, len_val, len_emp, len_own, lenRow_row, tostr_val, tostr_emp, tostr_own, tostrRow_row, ifc_val, mn_val, mx_val, lit_some, fn_fn, mks_val, isnil_nilif, isnil_ifc, isnil_emp, isnil_list, isnil_own, isnilRow_row, store_ptrK, storeBox_box, store_eltK, storeRow_row, add_some, app_own, app_emp, appRow_row, addOf_list, addOf_emp, addOf_own, rowOf_row]
    refine iteP_intro (fun h => by cases h) (fun _ => ?_)
    simp only [evalC_skip, evalC_reg, evalC_draw, evalC_seq, evalC_cond, evalC_block, evalC_exit, evalC_ret, then_normal, then_exit, then_ret, then_pan, inBlock_normal, inBlock_ret, inBlock_pan, inBlock_exit, condS_bool, evalOps_nil, evalOps_cons, evalX_nil, evalX_cons, guardS_none, guardS_some, setD_some, setD_none, ev_t, ev_k, Option.getD_some, Option.getD_none, stepE_mov, stepE_pick, stepE_alloc, stepE_box, stepE_build, stepE_store, stepE_app, stepE_nilck, stepE_bin, stepE_eqb, stepE_eqs, stepE_un, stepE_conv, stepE_faddr, stepE_fld, stepE_load, stepE_iaddr, stepE_idx, stepE_slc, stepE_ext, stepE_lens, stepE_len, stepE_tostr, stepE_mkfn, stepE_ifc, stepE_mn, stepE_mx, stepE_mks, stepE_isnil, stepE_lit, stepE_call, stepE_callv, stepX_mov, stepX_nilck, stepX_bin, stepX_eqb, stepX_eqs, stepX_un, stepX_conv, stepX_faddr, stepX_fld, stepX_load, stepX_iaddr, stepX_idx, stepX_slc, stepX_ext, stepX_lens, stepX_len, stepX_tostr, stepX_mkfn, stepX_ifc, stepX_mn, stepX_mx, stepX_pick, stepX_build, stepX_lit, stepX_call, stepX_callv, binS_int, binS_str, binI_add, binI_sub, binI_mul, binI_quo, binI_rem, binI_eql, binI_neq, binI_lss, binI_leq, binI_gtr, binI_geq, binStr_add, binStr_eql, binStr_neq, unS_not, unS_neg, upd_app, envOf_nil, envOf_cons, memOf_nil, memOf_cons, RetP_ret, RetP_normal, resP_t, resP_tt, fin_env, frz_val, frz_emp, frz_own, pl_val, pl_emp, kill_val, kill_own, kill_ptr, kill_emp, kill_elt, kill_at, kill_undef, kill_fn, kill_skip, killM_row, killM_box, killM_dead, Kx_k, fillP_nil, fillP_cons, slc_lo, slc_hi, slc_lohi, slcl_lo, slcl_hi, Option.map_some, Option.map_none, iteP_true, iteP_false, onBool_val, onBool_skip, nilck_ptr, nilck_elt, nilck_at, nilck_fn, eqb_val, eqs_val, conv_val, faddr_ptr, faddr_elt, faddr_at, fld_val, fld_agg, load_ptr, loadBox_box, load_elt, loadRow_row, load_at, iaddr_lst, iaddr_own, iaddrRow_row, idx_val, ext_tup, lens_val, len_val, len_emp, len_own, lenRow_row, tostr_val, tostr_emp, tostr_own, tostrRow_row, ifc_val, mn_val, mx_val, lit_some, fn_fn, mks_val, isnil_nilif, isnil_ifc, isnil_emp, isnil_list, isnil_own, isnilRow_row, store_ptrK, storeBox_box, store_eltK, storeRow_row, add_some, app_own, app_emp, appRow_row, addOf_list, addOf_emp, addOf_own, rowOf_row]
    have h30 : ib30 u = false := (Bool.or_eq_false_iff.1 hbb).2
    have h36 : ib36 u = false := (Bool.or_eq_false_iff.1 h30).2
    unfold ib36 at h36
    have hsh : lshown (u.user ++ u.host ++ u.path ++ u.query ++ u.frag) = true := by simpa using h36
    simp only [lshown_append, Bool.and_eq_true] at hsh
    exact iurl_from2 u hs.s2 hs.s3 hs.s4 hsh.1.1.1.1 hsh.1.1.2 st' q1

theorem i_UrlOK (u : LUrl) (hs : Tiny u) : CallOK Tryz.prog 153 [.val (rvUrl u)] (.ret (.val (.bool (lurlOK u))) []) [] := by
  refine call_val mixed ok153 rfl (fun _ => rfl) ?_
  unfold ir153
  rw [evalC_intro]
  have hs' := hs
  obtain ⟨s1, s2, s3, s4, s5, s6, p0, p1⟩ := hs
  have hres : lurlOK u = (!((!lscheme u.scheme || decide (100 < usum u)) || ib30 u) && utail u) := by
    rw [← iurlOK_eq, iurlOK_parts]
    have e1 : decide (u.user.length + u.host.length + u.path.length + u.query.length + u.frag.length ≤ 100) = !decide (100 < usum u) := by
      unfold usum
      by_cases h : u.user.length + u.host.length + u.path.length + u.query.length + u.frag.length ≤ 100
      · rw [decide_eq_true h, decide_eq_false (by omega)]; rfl
      · rw [decide_eq_false h, decide_eq_true (by omega)]; rfl
    rw [e1]
    unfold utail
    cases lscheme u.scheme <;> cases decide (100 < usum u) <;> cases ib30 u <;> rfl
  simp [initSt, avPVs, avPV, avBoxesL, avBoxes, RV.cells, RV.one, PV.cells, PV.solid, PV.one, vals?, allVal, mkAgg, setAt, RV.ofCells, elems, PV.killL, List.all_cons, List.all_nil, rvUrl, tx, num, bs_size]
  refine callS_val rfl rfl (.inl rfl) (i_isScheme u.scheme (by omega)) ?_
  cases b1 : lscheme u.scheme with
  | false =>
    rw [b1] at hres
    simp [RV.cells, RV.one, PV.cells, PV.solid, PV.one, vals?, allVal, mkAgg, setAt, RV.ofCells, elems, PV.killL, List.all_cons, List.all_nil, tx, num, bs_size]
    refine iops30 (u := u) (b := true) hs' ⟨?_, ?_⟩ ?_ (fun st' q1 q2 => iurl_end u hs' true st' q1 q2 _ hres)
    · simp
    · simp [urlCells, tx, num]
    · simp
  | true =>
    rw [b1] at hres
    have w1 : IntKind.i64.wrap ((u.user.length : Int) + u.host.length) = (u.user.length : Int) + u.host.length := wrap_i64 (by omega) (by omega)
    have w2 : IntKind.i64.wrap ((u.user.length : Int) + u.host.length + u.path.length) = (u.user.length : Int) + u.host.length + u.path.length := wrap_i64 (by omega) (by omega)
    have w3 : IntKind.i64.wrap ((u.user.length : Int) + u.host.length + u.path.length + u.query.length) = (u.user.length : Int) + u.host.length + u.path.length + u.query.length := wrap_i64 (by omega) (by omega)
    have w4 : IntKind.i64.wrap ((u.user.length : Int) + u.host.length + u.path.length + u.query.length + u.frag.length) = (u.user.length : Int) + u.host.length + u.path.length + u.query.length + u.frag.length := wrap_i64 (by omega) (by omega)
    have e : decide ((100 : Int) < (u.user.length : Int) + u.host.length + u.path.length + u.query.length + u.frag.length) = decide (100 < usum u) := by
      unfold usum
      by_cases h : 100 < u.user.length + u.host.length + u.path.length + u.query.length + u.frag.length
      · rw [decide_eq_true h, decide_eq_true (by omega)]
      · rw [decide_eq_false h, decide_eq_false (by omega)]
    simp [RV.cells, RV.one, PV.cells, PV.solid, PV.one, vals?, allVal, mkAgg, setAt, RV.ofCells, elems, PV.killL, List.all_cons, List.all_nil, tx, num, bs_size, w1, w2, w3, w4, e]
    refine iops30 (u := u) (b := decide (100 < usum u)) hs' ⟨?_, ?_⟩ ?_ (fun st' q1 q2 => iurl_end u hs' _ st' q1 q2 _ (by rw [hres]; rfl))
    · simp
    · simp [urlCells, tx, num]
    · simp
end Go.Proofs
end

/- What the program's reading of an address comes to. -/
section
set_option maxRecDepth 100000
set_option linter.unusedVariables false
set_option linter.unusedSectionVars false
set_option linter.unusedSimpArgs false
namespace Go.Proofs
open Go.PW Go.KP
variable [GH]

structure IP (st : St) (u : LUrl) : Prop where
  e2 : st.env 2 = .ptr 2 0
  e7 : st.env 7 = .ptr 7 0
  m2 : st.mem 2 = .box (urlCells LUrl.zero)
  m7 : st.mem 7 = .box (urlCells u)

theorem iparse_from15 (u : LUrl) (hs : Tiny u) (st : St) (h : IP st u) : EC Tryz.prog ir121_from15 st (K := prs (u, lurlOK u)) := by
  unfold ir121_from15
  obtain ⟨e2, e7, m2, m7⟩ := h
  simp [RV.cells, RV.one, PV.cells, PV.solid, PV.one, vals?, allVal, mkAgg, setAt, RV.ofCells, elems, PV.killL, List.all_cons, List.all_nil, e2, e7, m2, m7, urlCells, allVal, tx, num]
  refine callX_val rfl rfl (.inl rfl) (i_UrlOK u hs) ?_
  simp [RV.cells, RV.one, PV.cells, PV.solid, PV.one, vals?, allVal, mkAgg, setAt, RV.ofCells, elems, PV.killL, List.all_cons, List.all_nil, e2, e7, m2, m7, urlCells, allVal, tx, num]
  refine resP_url (id := 2) ?_ ?_ ?_
  · simp [e2]
  · simp [e2, urlCells, tx, num]
  · simp

theorem iparse_from14 (sc us ho pa qu fr : Tx) (po : Int) (hq hf : Bool) (hs : Tiny ⟨sc, us, llow ho, po, pa, qu, fr, hq, hf⟩) (hh : ho.length < 1048577) (st : St) (h : IP st ⟨sc, us, [], po, pa, qu, fr, hq, hf⟩) (e12 : st.env 12 = .val (tx ho)) :
    EC Tryz.prog ir121_from14 st (K := prs (⟨sc, us, llow ho, po, pa, qu, fr, hq, hf⟩, lurlOK ⟨sc, us, llow ho, po, pa, qu, fr, hq, hf⟩)) := by
  unfold ir121_from14
  obtain ⟨e2, e7, m2, m7⟩ := h
  simp [RV.cells, RV.one, PV.cells, PV.solid, PV.one, vals?, allVal, mkAgg, setAt, RV.ofCells, elems, PV.killL, List.all_cons, List.all_nil, e2, e7, m2, m7, e12, urlCells, allVal, tx, num]
  refine callS_val rfl rfl (.inl rfl) (i_lower ho (by omega)) ?_
  simp [RV.cells, RV.one, PV.cells, PV.solid, PV.one, vals?, allVal, mkAgg, setAt, RV.ofCells, elems, PV.killL, List.all_cons, List.all_nil, e2, e7, m2, m7, urlCells, allVal, tx, num]
  refine iparse_from15 ⟨sc, us, llow ho, po, pa, qu, fr, hq, hf⟩ hs _ ⟨?_, ?_, ?_, ?_⟩ <;> simp [e2, e7, m2, m7, urlCells, tx, num]

theorem iparse_from13 (sc us pa qu fr : Tx) (hq hf : Bool) (h1 : sc.length < 1048577) (h2 : us.length < 1048577) (h3 : pa.length < 1048577) (h4 : qu.length < 1048577) (h5 : fr.length < 1048577) (r : Tx) (hr : r.length < 1048577) (st : St)
    (h : IP st ⟨sc, us, [], 0, pa, qu, fr, hq, hf⟩) (e12 : st.env 12 = .val (tx (lcutA r 58))) (e13 : st.env 13 = .val (tx (lcutB r 58))) (e6 : st.env 6 = .val (.bool (decide (58 ∈ r)))) :
    EC Tryz.prog ir121_from13 st (K := prs (portEnd ⟨sc, us, llow (lcutA r 58), 0, pa, qu, fr, hq, hf⟩ r)) := by
  unfold ir121_from13
  obtain ⟨e2, e7, m2, m7⟩ := h
  have hla := lcutA_len r 58
  have hlb := lcutB_len r 58
  have hll : (llow (lcutA r 58)).length < 1048577 := by simp [llow]; omega
  by_cases hc : 58 ∈ r
  · simp [RV.cells, RV.one, PV.cells, PV.solid, PV.one, vals?, allVal, mkAgg, setAt, RV.ofCells, elems, PV.killL, List.all_cons, List.all_nil, e6, e13, hc, tx]
    have hn := i_number (lcutB r 58) (by omega)
    refine callS_two rfl rfl (.inl rfl) hn ?_
    cases hb : (inum (lcutB r 58)).2 with
    | false =>
      have hnone := inum_none hb
      rw [show portEnd ⟨sc, us, llow (lcutA r 58), 0, pa, qu, fr, hq, hf⟩ r = (LUrl.zero, false) by simp only [portEnd, lport, hc, hnone, if_true]]
      simp [RV.cells, RV.one, PV.cells, PV.solid, PV.one, vals?, allVal, mkAgg, setAt, RV.ofCells, elems, PV.killL, List.all_cons, List.all_nil, e2, e7, m2, m7, tx, num, urlCells]
      refine parse_none _ ?_ ?_ ?_
      · simp [e2]
      · simp [urlCells, LUrl.zero, tx, num, bs]
      · simp
    | true =>
      have hsome := inum_le hb
      generalize (inum (lcutB r 58)).1 = n at *
      simp [RV.cells, RV.one, PV.cells, PV.solid, PV.one, vals?, allVal, mkAgg, setAt, RV.ofCells, elems, PV.killL, List.all_cons, List.all_nil, e2, e7, m2, m7, tx, num, urlCells]
      refine callS_val rfl rfl (.inl rfl) (i_within n 1 65535) ?_
      by_cases hin : 1 ≤ n ∧ n ≤ 65535
      · rw [decide_eq_true hin]
        simp [RV.cells, RV.one, PV.cells, PV.solid, PV.one, vals?, allVal, mkAgg, setAt, RV.ofCells, elems, PV.killL, List.all_cons, List.all_nil, e2, e7, m2, m7, tx, num, urlCells]
        refine callS_val rfl rfl (.inl rfl) (i_usual sc) ?_
        by_cases hu : n = lusual sc
        · have hl : lport sc r = some 0 := by
            simp only [lport, hc, hsome, hin, if_true, and_self]
            rw [if_pos hu]
          rw [show portEnd ⟨sc, us, llow (lcutA r 58), 0, pa, qu, fr, hq, hf⟩ r = (⟨sc, us, llow (lcutA r 58), 0, pa, qu, fr, hq, hf⟩, lurlOK ⟨sc, us, llow (lcutA r 58), 0, pa, qu, fr, hq, hf⟩) by simp only [portEnd, hl]]
          simp [RV.cells, RV.one, PV.cells, PV.solid, PV.one, vals?, allVal, mkAgg, setAt, RV.ofCells, elems, PV.killL, List.all_cons, List.all_nil, e2, e7, m2, m7, tx, num, urlCells, hu]
          refine iparse_from14 sc us (lcutA r 58) pa qu fr 0 hq hf ⟨h1, h2, hll, h3, h4, h5, by simp, by simp⟩ (by omega) _ ⟨?_, ?_, ?_, ?_⟩ ?_ <;> simp [e2, e7, m2, m7, e12, urlCells, tx, num]
        · have hl : lport sc r = some n := by
            simp only [lport, hc, hsome, hin, if_true, and_self]
            rw [if_neg hu]
          rw [show portEnd ⟨sc, us, llow (lcutA r 58), 0, pa, qu, fr, hq, hf⟩ r = (⟨sc, us, llow (lcutA r 58), n, pa, qu, fr, hq, hf⟩, lurlOK ⟨sc, us, llow (lcutA r 58), n, pa, qu, fr, hq, hf⟩) by simp only [portEnd, hl]]
          simp [RV.cells, RV.one, PV.cells, PV.solid, PV.one, vals?, allVal, mkAgg, setAt, RV.ofCells, elems, PV.killL, List.all_cons, List.all_nil, e2, e7, m2, m7, tx, num, urlCells, hu]
          refine iparse_from14 sc us (lcutA r 58) pa qu fr n hq hf ⟨h1, h2, hll, h3, h4, h5, by show _ ≤ n; omega, by show n ≤ _; omega⟩ (by omega) _ ⟨?_, ?_, ?_, ?_⟩ ?_ <;> simp [e2, e7, m2, m7, e12, urlCells, tx, num]
      · rw [decide_eq_false hin]
        rw [show portEnd ⟨sc, us, llow (lcutA r 58), 0, pa, qu, fr, hq, hf⟩ r = (LUrl.zero, false) by simp only [portEnd, lport, hc, hsome, hin, if_true, if_false]]
        simp [RV.cells, RV.one, PV.cells, PV.solid, PV.one, vals?, allVal, mkAgg, setAt, RV.ofCells, elems, PV.killL, List.all_cons, List.all_nil, e2, e7, m2, m7, tx, num, urlCells]
        refine parse_none _ ?_ ?_ ?_
        · simp [e2]
        · simp [urlCells, LUrl.zero, tx, num, bs]
        · simp
  · have hl : lport sc r = some 0 := by simp only [lport, hc, if_false]
    rw [show portEnd ⟨sc, us, llow (lcutA r 58), 0, pa, qu, fr, hq, hf⟩ r = (⟨sc, us, llow (lcutA r 58), 0, pa, qu, fr, hq, hf⟩, lurlOK ⟨sc, us, llow (lcutA r 58), 0, pa, qu, fr, hq, hf⟩) by simp only [portEnd, hl]]
    simp [RV.cells, RV.one, PV.cells, PV.solid, PV.one, vals?, allVal, mkAgg, setAt, RV.ofCells, elems, PV.killL, List.all_cons, List.all_nil, e6, hc]
    refine iparse_from14 sc us (lcutA r 58) pa qu fr 0 hq hf ⟨h1, h2, hll, h3, h4, h5, by simp, by simp⟩ (by omega) _ ⟨?_, ?_, ?_, ?_⟩ ?_ <;> simp [e2, e7, m2, m7, e12, urlCells, tx, num]

theorem iparse_from12 (sc us pa qu fr : Tx) (hq hf : Bool) (h1 : sc.length < 1048577) (h2 : us.length < 1048577) (h3 : pa.length < 1048577) (h4 : qu.length < 1048577) (h5 : fr.length < 1048577) (r : Tx) (hr : r.length < 1048577) (st : St)
    (h : IP st ⟨sc, us, [], 0, pa, qu, fr, hq, hf⟩) (e5 : st.env 5 = .val (tx r)) :
    EC Tryz.prog ir121_from12 st (K := prs (portEnd ⟨sc, us, llow (lcutA r 58), 0, pa, qu, fr, hq, hf⟩ r)) := by
  unfold ir121_from12
  obtain ⟨e2, e7, m2, m7⟩ := h
  have q1 : (⟨#[58]⟩ : ByteArray) = bs [58] := rfl
  simp [RV.cells, RV.one, PV.cells, PV.solid, PV.one, vals?, allVal, mkAgg, setAt, RV.ofCells, elems, PV.killL, List.all_cons, List.all_nil, e5, tx, q1]
  refine callS_three rfl rfl (.inl rfl) (c_Cut r 58 (by omega)) ?_
  simp [RV.cells, RV.one, PV.cells, PV.solid, PV.one, vals?, allVal, mkAgg, setAt, RV.ofCells, elems, PV.killL, List.all_cons, List.all_nil, e5, tx]
  refine iparse_from13 sc us pa qu fr hq hf h1 h2 h3 h4 h5 r hr _ ⟨?_, ?_, ?_, ?_⟩ ?_ ?_ ?_ <;> simp [e2, e7, m2, m7, urlCells, tx, num]

theorem iparse_from11 (sc pa qu fr : Tx) (hq hf : Bool) (h1 : sc.length < 1048577) (h3 : pa.length < 1048577) (h4 : qu.length < 1048577) (h5 : fr.length < 1048577) (r : Tx) (hr : r.length < 1048577) (st : St)
    (h : IP st ⟨sc, [], [], 0, pa, qu, fr, hq, hf⟩) (e5 : st.env 5 = .val (tx r)) :
    EC Tryz.prog ir121_from11 st (K := prs (userEnd sc pa qu fr hq hf r)) := by
  unfold ir121_from11
  obtain ⟨e2, e7, m2, m7⟩ := h
  have q1 : (⟨#[64]⟩ : ByteArray) = bs [64] := rfl
  have hla := lcutA_len r 64
  have hlb := lcutB_len r 64
  simp [RV.cells, RV.one, PV.cells, PV.solid, PV.one, vals?, allVal, mkAgg, setAt, RV.ofCells, elems, PV.killL, List.all_cons, List.all_nil, e5, tx, q1]
  refine callS_three rfl rfl (.inl rfl) (c_Cut r 64 (by omega)) ?_
  unfold userEnd
  by_cases hc : 64 ∈ r
  · have e : (if 64 ∈ r then lcutB r 64 else r) = lcutB r 64 := if_pos hc
    rw [if_pos hc, e]
    simp [RV.cells, RV.one, PV.cells, PV.solid, PV.one, vals?, allVal, mkAgg, setAt, RV.ofCells, elems, PV.killL, List.all_cons, List.all_nil, e5, tx, hc, e2, e7, m2, m7, urlCells, num]
    refine iparse_from12 sc (lcutA r 64) pa qu fr hq hf h1 (by omega) h3 h4 h5 (lcutB r 64) (by omega) _ ⟨?_, ?_, ?_, ?_⟩ ?_ <;> simp [e2, e7, m2, m7, urlCells, tx, num]
  · have e : (if 64 ∈ r then lcutB r 64 else r) = r := if_neg hc
    rw [if_neg hc, e]
    simp [RV.cells, RV.one, PV.cells, PV.solid, PV.one, vals?, allVal, mkAgg, setAt, RV.ofCells, elems, PV.killL, List.all_cons, List.all_nil, e5, tx, hc]
    refine iparse_from12 sc [] pa qu fr hq hf h1 (by simp) h3 h4 h5 r hr _ ⟨?_, ?_, ?_, ?_⟩ ?_ <;> simp [e2, e7, m2, m7, e5, urlCells, tx, num]

theorem iparse_from10 (sc qu fr : Tx) (hq hf : Bool) (h1 : sc.length < 1048577) (h4 : qu.length < 1048577) (h5 : fr.length < 1048577) (r : Tx) (hr : r.length < 1048577) (st : St)
    (h : IP st ⟨sc, [], [], 0, [47], qu, fr, hq, hf⟩) (e5 : st.env 5 = .val (tx r)) :
    EC Tryz.prog ir121_from10 st (K := prs (pathEnd sc qu fr hq hf r)) := by
  unfold ir121_from10
  obtain ⟨e2, e7, m2, m7⟩ := h
  have hle := lfind_le r 47
  have hla := lcutA_len r 47
  simp [RV.cells, RV.one, PV.cells, PV.solid, PV.one, vals?, allVal, mkAgg, setAt, RV.ofCells, elems, PV.killL, List.all_cons, List.all_nil, e5, tx]
  refine callS_val rfl rfl (.inl rfl) (c_IndexByte r 47) ?_
  unfold pathEnd
  by_cases hc : 47 ∈ r
  · rw [if_pos hc]
    simp [RV.cells, RV.one, PV.cells, PV.solid, PV.one, vals?, allVal, mkAgg, setAt, RV.ofCells, elems, PV.killL, List.all_cons, List.all_nil, e5, tx, num, hc, e2, e7, m2, m7, urlCells, bs_size, bs_extract, hle, drop_len]
    refine iparse_from11 sc (r.drop (lfind r 47)) qu fr hq hf h1 (by simp; omega) h4 h5 (lcutA r 47) (by omega) _ ⟨?_, ?_, ?_, ?_⟩ ?_ <;> simp [e2, e7, m2, m7, urlCells, tx, num, lcutA]
  · rw [if_neg hc]
    simp [RV.cells, RV.one, PV.cells, PV.solid, PV.one, vals?, allVal, mkAgg, setAt, RV.ofCells, elems, PV.killL, List.all_cons, List.all_nil, e5, tx, num, hc]
    rw [lcutA_none hc]
    refine iparse_from11 sc [47] qu fr hq hf h1 (by simp) h4 h5 r hr _ ⟨?_, ?_, ?_, ?_⟩ ?_ <;> simp [e2, e7, m2, m7, e5, urlCells, tx, num]

theorem iparse_from7 (sc : Tx) (h1 : sc.length < 1048577) (r : Tx) (hr : r.length < 1048577) (st : St) (h : IP st ⟨sc, [], [], 0, [], [], [], false, false⟩) (e5 : st.env 5 = .val (tx r)) :
    EC Tryz.prog ir121_from7 st (K := prs (lweb1 sc r)) := by
  unfold ir121_from7
  obtain ⟨e2, e7, m2, m7⟩ := h
  have q1 : (⟨#[35]⟩ : ByteArray) = bs [35] := rfl
  have q2 : (⟨#[63]⟩ : ByteArray) = bs [63] := rfl
  have q3 : (⟨#[47]⟩ : ByteArray) = bs [47] := rfl
  have e : lweb1 sc r = pathEnd sc (lcutB (lcutA r 35) 63) (lcutB r 35) (decide (63 ∈ lcutA r 35)) (decide (35 ∈ r)) (lcutA (lcutA r 35) 63) := rfl
  have hl1 := lcutA_len r 35
  have hl2 := lcutB_len r 35
  have hl3 := lcutA_len (lcutA r 35) 63
  have hl4 := lcutB_len (lcutA r 35) 63
  rw [e]
  simp [RV.cells, RV.one, PV.cells, PV.solid, PV.one, vals?, allVal, mkAgg, setAt, RV.ofCells, elems, PV.killL, List.all_cons, List.all_nil, e5, tx, q1]
  refine callS_three rfl rfl (.inl rfl) (c_Cut r 35 (by omega)) ?_
  simp [RV.cells, RV.one, PV.cells, PV.solid, PV.one, vals?, allVal, mkAgg, setAt, RV.ofCells, elems, PV.killL, List.all_cons, List.all_nil, e5, tx, q2, e2, e7, m2, m7, urlCells, num]
  refine callS_three rfl rfl (.inl rfl) (c_Cut (lcutA r 35) 63 (by omega)) ?_
  simp [RV.cells, RV.one, PV.cells, PV.solid, PV.one, vals?, allVal, mkAgg, setAt, RV.ofCells, elems, PV.killL, List.all_cons, List.all_nil, e5, tx, q3, e2, e7, m2, m7, urlCells, num]
  refine iparse_from10 sc (lcutB (lcutA r 35) 63) (lcutB r 35) _ _ h1 (by omega) (by omega) (lcutA (lcutA r 35) 63) (by omega) _ ⟨?_, ?_, ?_, ?_⟩ ?_ <;> simp [e2, e7, m2, m7, urlCells, tx, num]

theorem prefix2 (r : Tx) : ([47, 47] : Tx).isPrefixOf r = decide (r.take 2 = [47, 47]) := by
  match r with
  | [] => rfl
  | [a] => simp [List.isPrefixOf]
  | a :: b :: r =>
    rw [Bool.eq_iff_iff]
    simp [List.isPrefixOf]
    constructor
    · rintro ⟨rfl, rfl⟩; exact ⟨rfl, rfl⟩
    · rintro ⟨rfl, rfl⟩; exact ⟨rfl, rfl⟩

theorem iparse_from4 (sc : Tx) (h1 : sc.length < 1048577) (r : Tx) (hr : r.length < 1048577) (st : St)
    (h : IP st ⟨sc, [], [], 0, [], [], [], false, false⟩) (e5 : st.env 5 = .val (tx r)) : EC Tryz.prog ir121_from4 st (K := prs (if lweb sc then if r.take 2 = [47, 47] then lweb1 sc (r.drop 2) else (LUrl.zero, false) else (⟨sc, [], [], 0, lcutA (lcutA r 35) 63, [], [], false, false⟩, lurlOK ⟨sc, [], [], 0, lcutA (lcutA r 35) 63, [], [], false, false⟩))) := by
  unfold ir121_from4
  obtain ⟨e2, e7, m2, m7⟩ := h
  have q1 : (⟨#[35]⟩ : ByteArray) = bs [35] := rfl
  have q2 : (⟨#[63]⟩ : ByteArray) = bs [63] := rfl
  have q3 : (⟨#[47, 47]⟩ : ByteArray) = bs [47, 47] := rfl
  have hl1 := lcutA_len r 35
  have hl3 := lcutA_len (lcutA r 35) 63
  simp [RV.cells, RV.one, PV.cells, PV.solid, PV.one, vals?, allVal, mkAgg, setAt, RV.ofCells, elems, PV.killL, List.all_cons, List.all_nil, e2, e7, m2, m7, tx, num, urlCells, allVal]
  refine callS_val rfl rfl (.inl rfl) (i_web ⟨sc, [], [], 0, [], [], [], false, false⟩) ?_
  by_cases hw : lweb sc = true
  · rw [if_pos hw]
    simp [RV.cells, RV.one, PV.cells, PV.solid, PV.one, vals?, allVal, mkAgg, setAt, RV.ofCells, elems, PV.killL, List.all_cons, List.all_nil, e5, tx, hw, q3]
    refine callS_two rfl rfl (.inl rfl) (c_CutPrefix r [47, 47]) ?_
    rw [prefix2]
    by_cases ht : r.take 2 = [47, 47]
    · rw [if_pos ht]
      simp [RV.cells, RV.one, PV.cells, PV.solid, PV.one, vals?, allVal, mkAgg, setAt, RV.ofCells, elems, PV.killL, List.all_cons, List.all_nil, tx, ht]
      refine iparse_from7 sc h1 (r.drop 2) (by simp; omega) _ ⟨?_, ?_, ?_, ?_⟩ ?_ <;> simp [e2, e7, m2, m7, urlCells, tx, num]
    · rw [if_neg ht]
      simp [RV.cells, RV.one, PV.cells, PV.solid, PV.one, vals?, allVal, mkAgg, setAt, RV.ofCells, elems, PV.killL, List.all_cons, List.all_nil, e2, e7, m2, m7, tx, num, urlCells, ht]
      refine parse_none _ ?_ ?_ ?_
      · simp [e2]
      · simp [urlCells, LUrl.zero, tx, num, bs]
      · simp
  · rw [if_neg hw]
    simp [RV.cells, RV.one, PV.cells, PV.solid, PV.one, vals?, allVal, mkAgg, setAt, RV.ofCells, elems, PV.killL, List.all_cons, List.all_nil, e5, tx, hw, q1]
    refine callS_three rfl rfl (.inl rfl) (c_Cut r 35 (by omega)) ?_
    simp [RV.cells, RV.one, PV.cells, PV.solid, PV.one, vals?, allVal, mkAgg, setAt, RV.ofCells, elems, PV.killL, List.all_cons, List.all_nil, tx, hw, q2]
    refine callS_three rfl rfl (.inl rfl) (c_Cut (lcutA r 35) 63 (by omega)) ?_
    simp [RV.cells, RV.one, PV.cells, PV.solid, PV.one, vals?, allVal, mkAgg, setAt, RV.ofCells, elems, PV.killL, List.all_cons, List.all_nil, e2, e7, m2, m7, tx, num, urlCells, allVal]
    refine callX_val rfl rfl (.inl rfl) (i_UrlOK ⟨sc, [], [], 0, lcutA (lcutA r 35) 63, [], [], false, false⟩ ⟨h1, by simp, by simp, by show (lcutA (lcutA r 35) 63).length < _; omega, by simp, by simp, by simp, by simp⟩) ?_
    simp [RV.cells, RV.one, PV.cells, PV.solid, PV.one, vals?, allVal, mkAgg, setAt, RV.ofCells, elems, PV.killL, List.all_cons, List.all_nil, e2, e7, m2, m7, tx, num, urlCells, allVal]
    refine resP_url (id := 2) ?_ ?_ ?_
    · simp [e2]
    · simp [urlCells, tx, num]
    · simp

theorem i_parse (t : Tx) (ht : t.length < 1048577) : CallOK Tryz.prog 121 [.val (tx t)] (.ret (parseRes (lparse t)) []) [] := by
  refine call_val mixed ok121 rfl (fun _ => rfl) ?_
  unfold ir121
  rw [evalC_intro]
  have q1 : (⟨#[58]⟩ : ByteArray) = bs [58] := rfl
  have hla := lcutA_len t 58
  have hlb := lcutB_len t 58
  simp [initSt, avPVs, avPV, avBoxesL, avBoxes, RV.cells, RV.one, PV.cells, PV.solid, PV.one, vals?, allVal, mkAgg, setAt, RV.ofCells, elems, PV.killL, List.all_cons, List.all_nil, tx, num, q1]
  refine callS_three rfl rfl (.inl rfl) (c_Cut t 58 (by omega)) ?_
  simp [RV.cells, RV.one, PV.cells, PV.solid, PV.one, vals?, allVal, mkAgg, setAt, RV.ofCells, elems, PV.killL, List.all_cons, List.all_nil, tx, num]
  refine callS_val rfl rfl (.inl rfl) (i_lower (lcutA t 58) (by omega)) ?_
  by_cases hc : 58 ∈ t
  · rw [show lparse t = (if lweb (llow (lcutA t 58)) then if (lcutB t 58).take 2 = [47, 47] then lweb1 (llow (lcutA t 58)) ((lcutB t 58).drop 2) else (LUrl.zero, false) else (⟨llow (lcutA t 58), [], [], 0, lcutA (lcutA (lcutB t 58) 35) 63, [], [], false, false⟩, lurlOK ⟨llow (lcutA t 58), [], [], 0, lcutA (lcutA (lcutB t 58) 35) 63, [], [], false, false⟩)) by unfold lparse; rw [if_pos hc]]
    simp [RV.cells, RV.one, PV.cells, PV.solid, PV.one, vals?, allVal, mkAgg, setAt, RV.ofCells, elems, PV.killL, List.all_cons, List.all_nil, tx, num, hc]
    refine iparse_from4 (llow (lcutA t 58)) (by simp [llow]; omega) (lcutB t 58) (by omega) _ ⟨?_, ?_, ?_, ?_⟩ ?_ <;> simp [RV.cells, RV.one, PV.cells, PV.solid, PV.one, vals?, allVal, mkAgg, setAt, RV.ofCells, elems, PV.killL, List.all_cons, List.all_nil, urlCells, tx, num, LUrl.zero, bs]
  · rw [show lparse t = (LUrl.zero, false) by unfold lparse; rw [if_neg hc]]
    simp [RV.cells, RV.one, PV.cells, PV.solid, PV.one, vals?, allVal, mkAgg, setAt, RV.ofCells, elems, PV.killL, List.all_cons, List.all_nil, tx, num, hc]
    refine parse_none _ ?_ ?_ ?_
    · simp
    · simp [urlCells, LUrl.zero, tx, num, bs]
    · simp
end Go.Proofs
end

/- What the program's look at targets and peers comes to. -/
section
set_option maxRecDepth 100000
set_option linter.unusedVariables false
set_option linter.unusedSectionVars false
set_option linter.unusedSimpArgs false
namespace Go.Proofs
open Go.PW Go.KP
variable [GH]

theorem tiny_of {u : LUrl} (h : u.Tiny) : Tiny u := ⟨h.1, h.2.1, h.2.2.1, h.2.2.2.1, h.2.2.2.2.1, h.2.2.2.2.2.1, by have := h.2.2.2.2.2.2; omega, by have := h.2.2.2.2.2.2; omega⟩

/-- An address and a code. -/
def codeRes (r : LUrl × Int) : PV := .tup [.val (rvUrl r.1), .val (num r.2)]
theorem resP_code {st : St} {s t id : Nat} {u : LUrl} {n : Int} (h1 : st.env s = .ptr id 0) (h2 : st.mem id = .box (urlCells u)) (h5 : st.env t = .val (num n)) : resP [.c s true 9, .t t] st.fin = some (codeRes (u, n)) := by
  rw [resP_ct (n := 9) (rs := urlRs u) h1 (by rw [h2, urlCells_eq]) rfl (by omega) h5, mkAgg_url]
  rfl
def iparseUrl (t : Tx) : LUrl × Int := if t.length ≤ 65536 then if (lparse t).2 then ((lparse t).1, 0) else (LUrl.zero, 3) else (LUrl.zero, 2)

theorem i_ParseUrl (t : Tx) (ht : t.length < 1048577) : CallOK Tryz.prog 119 [.val (tx t)] (.ret (codeRes (iparseUrl t)) []) [] := by
  refine call_val mixed ok119 rfl (fun _ => rfl) ?_
  unfold ir119
  rw [evalC_intro]
  unfold iparseUrl
  simp [initSt, avPVs, avPV, avBoxesL, avBoxes, RV.cells, RV.one, PV.cells, PV.solid, PV.one, vals?, allVal, mkAgg, setAt, RV.ofCells, elems, PV.killL, List.all_cons, List.all_nil, tx]
  refine callS_val rfl rfl (.inl rfl) (i_long t) ?_
  by_cases hl : t.length ≤ 65536
  · rw [if_pos hl, if_pos hl]
    simp [RV.cells, RV.one, PV.cells, PV.solid, PV.one, vals?, allVal, mkAgg, setAt, RV.ofCells, elems, PV.killL, List.all_cons, List.all_nil, tx, num]
    refine callS_two rfl rfl (.inl rfl) (i_parse t ht) ?_
    cases hok : (lparse t).2 with
    | true =>
      rw [if_pos rfl]
      simp [RV.cells, RV.one, PV.cells, PV.solid, PV.one, vals?, allVal, mkAgg, setAt, RV.ofCells, elems, PV.killL, List.all_cons, List.all_nil, tx, num, rvUrl, allVal]
      refine resP_code (id := 2) ?_ ?_ ?_
      · simp
      · simp [urlCells, tx, num]
      · simp [num]
    | false =>
      rw [if_neg (by simp)]
      simp [RV.cells, RV.one, PV.cells, PV.solid, PV.one, vals?, allVal, mkAgg, setAt, RV.ofCells, elems, PV.killL, List.all_cons, List.all_nil, tx, num, rvUrl, allVal]
      refine resP_code (id := 2) ?_ ?_ ?_
      · simp
      · simp [urlCells, LUrl.zero, tx, num, bs]
      · simp [num]
  · rw [if_neg hl, if_neg hl]
    simp [RV.cells, RV.one, PV.cells, PV.solid, PV.one, vals?, allVal, mkAgg, setAt, RV.ofCells, elems, PV.killL, List.all_cons, List.all_nil, tx, num]
    refine resP_code (id := 2) ?_ ?_ ?_
    · simp
    · simp [urlCells, LUrl.zero, tx, num, bs]
    · simp [num]

def cleanRes (o : Option Tx) : PV := .tup [.val (tx (o.getD [])), .val (.bool o.isSome)]
theorem clean_from4 (u : LUrl) (hs : Tiny u) (st : St) (e4 : st.env 4 = .ptr 4 0) (m4 : st.mem 4 = .box (urlCells { u with frag := [], hasF := false })) : EC Tryz.prog ir131_from4 st (K := ⟨RetP [.t 2, .t 3] (cleanRes (some (itext { u with frag := [], hasF := false })))⟩) := by
  unfold ir131_from4
  obtain ⟨s1, s2, s3, s4, s5, s6, p0, p1⟩ := hs
  have ht : Tiny { u with frag := [], hasF := false } := ⟨s1, s2, s3, s4, s5, by simp, p0, p1⟩
  simp [RV.cells, RV.one, PV.cells, PV.solid, PV.one, vals?, allVal, mkAgg, setAt, RV.ofCells, elems, PV.killL, List.all_cons, List.all_nil, e4, m4, urlCells, tx, num, allVal]
  refine callS_val rfl rfl (.inl rfl) (i_text { u with frag := [], hasF := false } ht.small p0) ?_
  simp [RV.cells, RV.one, PV.cells, PV.solid, PV.one, vals?, allVal, mkAgg, setAt, RV.ofCells, elems, PV.killL, List.all_cons, List.all_nil, cleanRes]

theorem i_clean (t : Tx) (ht : t.length < 1048577) : CallOK Tryz.prog 131 [.val (tx t)] (.ret (cleanRes (iclean t)) []) [] := by
  refine call_val mixed ok131 rfl (fun _ => rfl) ?_
  unfold ir131
  rw [evalC_intro]
  have htn := tiny_of (lparse_tiny ht)
  have hpu := i_ParseUrl t ht
  by_cases hl : t.length ≤ 65536
  · cases hok : (lparse t).2 with
    | false =>
      have e1 : iclean t = none := by unfold iclean; rw [if_pos hl, hok]; rfl
      have e2 : iparseUrl t = (LUrl.zero, 3) := by unfold iparseUrl; rw [if_pos hl, hok]; rfl
      rw [e1]
      rw [e2] at hpu
      simp [initSt, avPVs, avPV, avBoxesL, avBoxes, RV.cells, RV.one, PV.cells, PV.solid, PV.one, vals?, allVal, mkAgg, setAt, RV.ofCells, elems, PV.killL, List.all_cons, List.all_nil, tx]
      refine callS_two rfl rfl (.inl rfl) hpu ?_
      simp [RV.cells, RV.one, PV.cells, PV.solid, PV.one, vals?, allVal, mkAgg, setAt, RV.ofCells, elems, PV.killL, List.all_cons, List.all_nil, tx, num, rvUrl, allVal, cleanRes, bs]
    | true =>
      have e2 : iparseUrl t = ((lparse t).1, 0) := by unfold iparseUrl; rw [if_pos hl, hok]; rfl
      rw [e2] at hpu
      cases hw : lweb (lparse t).1.scheme with
      | false =>
        have e1 : iclean t = none := by unfold iclean; rw [if_pos hl, hok, hw]; rfl
        rw [e1]
        simp [initSt, avPVs, avPV, avBoxesL, avBoxes, RV.cells, RV.one, PV.cells, PV.solid, PV.one, vals?, allVal, mkAgg, setAt, RV.ofCells, elems, PV.killL, List.all_cons, List.all_nil, tx]
        refine callS_two rfl rfl (.inl rfl) hpu ?_
        simp [RV.cells, RV.one, PV.cells, PV.solid, PV.one, vals?, allVal, mkAgg, setAt, RV.ofCells, elems, PV.killL, List.all_cons, List.all_nil, tx, num, rvUrl, allVal]
        refine callS_val rfl rfl (.inl rfl) (i_web (lparse t).1) ?_
        rw [hw]
        simp [RV.cells, RV.one, PV.cells, PV.solid, PV.one, vals?, allVal, mkAgg, setAt, RV.ofCells, elems, PV.killL, List.all_cons, List.all_nil, tx, num, cleanRes, bs]
      | true =>
        have e1 : iclean t = some (itext { (lparse t).1 with frag := [], hasF := false }) := by unfold iclean; rw [if_pos hl, hok, hw]; rfl
        rw [e1]
        simp [initSt, avPVs, avPV, avBoxesL, avBoxes, RV.cells, RV.one, PV.cells, PV.solid, PV.one, vals?, allVal, mkAgg, setAt, RV.ofCells, elems, PV.killL, List.all_cons, List.all_nil, tx]
        refine callS_two rfl rfl (.inl rfl) hpu ?_
        simp [RV.cells, RV.one, PV.cells, PV.solid, PV.one, vals?, allVal, mkAgg, setAt, RV.ofCells, elems, PV.killL, List.all_cons, List.all_nil, tx, num, rvUrl, allVal]
        refine callS_val rfl rfl (.inl rfl) (i_web (lparse t).1) ?_
        rw [hw]
        simp [RV.cells, RV.one, PV.cells, PV.solid, PV.one, vals?, allVal, mkAgg, setAt, RV.ofCells, elems, PV.killL, List.all_cons, List.all_nil, tx, num]
        refine clean_from4 (lparse t).1 htn _ ?_ ?_ <;> simp [urlCells, tx, num, bs]
  · have e1 : iclean t = none := by unfold iclean; rw [if_neg hl]
    have e2 : iparseUrl t = (LUrl.zero, 2) := by unfold iparseUrl; rw [if_neg hl]
    rw [e1]
    rw [e2] at hpu
    simp [initSt, avPVs, avPV, avBoxesL, avBoxes, RV.cells, RV.one, PV.cells, PV.solid, PV.one, vals?, allVal, mkAgg, setAt, RV.ofCells, elems, PV.killL, List.all_cons, List.all_nil, tx]
    refine callS_two rfl rfl (.inl rfl) hpu ?_
    simp [RV.cells, RV.one, PV.cells, PV.solid, PV.one, vals?, allVal, mkAgg, setAt, RV.ofCells, elems, PV.killL, List.all_cons, List.all_nil, tx, num, rvUrl, allVal, cleanRes, bs]

/-- Where the look at a target stands. -/
structure JT (st : St) (x : LTarget) : Prop where
  e1 : st.env 1 = .ptr 1 0
  m1 : st.mem 1 = .box [.val (tx x.url), .val (num x.prio), .val (num x.weight)]
theorem jops18 {Ks : Kx (St → Prop)} {kx : Kx (RV → St → Prop)} {st : St} {x : LTarget} {b : Bool} (h : JT st x) (hb : st.env 17 = .val (.bool b)) (hK : ∀ st', st'.env 2 = .val (.bool (b && (decide (1 ≤ x.prio ∧ x.prio ≤ 9) && decide (1 ≤ x.weight ∧ x.weight ≤ 9)))) → Ks.k st') : EO Tryz.prog ir97_o18 st (Ks := Ks) (kx := kx) := by
  unfold ir97_o18
  cases b with
  | false =>
    simp [hb]
    exact hK _ (by simp)
  | true =>
    simp [RV.cells, RV.one, PV.cells, PV.solid, PV.one, vals?, allVal, mkAgg, setAt, RV.ofCells, elems, PV.killL, List.all_cons, List.all_nil, hb, h.e1, h.m1, num]
    refine callS_val rfl rfl (.inl rfl) (i_within x.prio 1 9) ?_
    cases hp : decide (1 ≤ x.prio ∧ x.prio ≤ 9) with
    | false =>
      simp [RV.cells, RV.one, PV.cells, PV.solid, PV.one, vals?, allVal, mkAgg, setAt, RV.ofCells, elems, PV.killL, List.all_cons, List.all_nil]
      exact hK _ (by simp [hp])
    | true =>
      simp [RV.cells, RV.one, PV.cells, PV.solid, PV.one, vals?, allVal, mkAgg, setAt, RV.ofCells, elems, PV.killL, List.all_cons, List.all_nil, h.e1, h.m1, num]
      refine callS_val rfl rfl (.inl rfl) (i_within x.weight 1 9) ?_
      simp [RV.cells, RV.one, PV.cells, PV.solid, PV.one, vals?, allVal, mkAgg, setAt, RV.ofCells, elems, PV.killL, List.all_cons, List.all_nil]
      exact hK _ (by rw [hp]; simp)

theorem i_targetOK (x : LTarget) (hx : x.url.length < 1048577) : CallOK Tryz.prog 97 [.val (rvTarget x)] (.ret (.val (.bool (ltargetOK x))) []) [] := by
  refine call_val mixed ok97 rfl (fun _ => rfl) ?_
  unfold ir97
  rw [evalC_intro, ← itargetOK_eq, Bool.and_assoc]
  simp [initSt, avPVs, avPV, avBoxesL, avBoxes, RV.cells, RV.one, PV.cells, PV.solid, PV.one, vals?, allVal, mkAgg, setAt, RV.ofCells, elems, PV.killL, List.all_cons, List.all_nil, rvTarget, tx, num]
  refine callS_two rfl rfl (.inl rfl) (i_clean x.url hx) ?_
  cases hc : iclean x.url with
  | none =>
    simp [RV.cells, RV.one, PV.cells, PV.solid, PV.one, vals?, allVal, mkAgg, setAt, RV.ofCells, elems, PV.killL, List.all_cons, List.all_nil]
    refine jops18 (x := x) (b := false) ⟨?_, ?_⟩ ?_ (fun st' q => ?_)
    · simp
    · simp [tx, num]
    · simp
    · simp [q]
  | some u =>
    simp [RV.cells, RV.one, PV.cells, PV.solid, PV.one, vals?, allVal, mkAgg, setAt, RV.ofCells, elems, PV.killL, List.all_cons, List.all_nil, tx, bs_inj]
    refine jops18 (x := x) (b := decide (u = x.url)) ⟨?_, ?_⟩ ?_ (fun st' q => ?_)
    · simp
    · simp [tx, num]
    · simp
    · simp [q]

/-! ### Closures -/
theorem i_hasUrl1 (x : LTarget) (url : Tx) : CallOK Tryz.prog 161 [.val (rvTarget x), .box [tx url]] (.ret (.val (.bool (decide (x.url = url)))) []) [[tx url]] := by
  refine call_valB mixed ok161 rfl (fun _ => rfl) ?_
  unfold ir161
  rw [evalC_intro]
  simp [initSt, avPVs, avPV, avBoxesL, avBoxes, RV.cells, RV.one, PV.cells, PV.solid, PV.one, vals?, allVal, mkAgg, setAt, RV.ofCells, elems, PV.killL, List.all_cons, List.all_nil, rvTarget, tx, num, bs_inj, RetB_ret, BoxesAt]

def lidx {α : Type} (l : List α) (p : α → Bool) : Int := match l.findIdx? p with
  | some i => i
  | none => -1
theorem lidx_ge {α : Type} (l : List α) (p : α → Bool) : decide (0 ≤ lidx l p) = l.any p := by
  unfold lidx
  cases h : l.findIdx? p with
  | none =>
    rw [List.findIdx?_eq_none_iff] at h
    rw [Bool.eq_iff_iff]
    simp only [decide_eq_true_eq, List.any_eq_true]
    constructor
    · intro h; omega
    · rintro ⟨x, hx, hp⟩; rw [h x hx] at hp; cases hp
  | some i =>
    rw [List.findIdx?_eq_some_iff_getElem] at h
    obtain ⟨hi, hp, _⟩ := h
    show decide (0 ≤ (i : Int)) = _
    rw [decide_eq_true (by omega)]
    symm
    rw [List.any_eq_true]
    exact ⟨l[i], List.getElem_mem hi, hp⟩
theorem lidx_hit {α : Type} {l : List α} {p : α → Bool} {i : Nat} (hi : i < l.length) (hp : p l[i] = true) (h : ∀ k (hk : k < i), p (l[k]'(by omega)) = false) : lidx l p = i := by
  unfold lidx
  have : l.findIdx? p = some i := by
    rw [List.findIdx?_eq_some_iff_getElem]
    exact ⟨hi, hp, fun j hj => by simp [h j hj]⟩
  rw [this]
theorem lidx_none {α : Type} {l : List α} {p : α → Bool} (h : ∀ k (hk : k < l.length), p l[k] = false) : lidx l p = -1 := by
  unfold lidx
  have : l.findIdx? p = none := by
    rw [List.findIdx?_eq_none_iff]
    intro x hx
    obtain ⟨k, hk, rfl⟩ := List.getElem_of_mem hx
    exact h k hk
  rw [this]

theorem targets_at {l : List LTarget} {j : Nat} (h : j < l.length) : (l.map rvTarget)[j]?.getD .nilptr = rvTarget l[j] := by simp [List.getElem?_eq_getElem h]

theorem i_IndexFuncT (l : List LTarget) (g : Nat) (c : RV) (p : LTarget → Bool) (hl : l.length < 1099511627776) (hg : fnB Tryz.prog g = true)
    (hp : ∀ x ∈ l, CallOK Tryz.prog g [.val (rvTarget x), .box [c]] (.ret (.val (.bool (p x))) []) [[c]]) :
    CallOK Tryz.prog 184 [.val (.list 3 (l.map rvTarget)), .fn g [.box [c]]] (.ret (.val (num (lidx l p))) []) [[c]] := by
  refine call_valB mixed ok184 rfl (fun _ => rfl) ?_
  unfold ir184
  rw [evalC_intro]
  simp [initSt, avPVs, avPV, avBoxesL, avBoxes, avPV, avPVs]
  refine loop_EC (X := Nat) (fun i => ⟨envOf [(0, .val (.list 3 (l.map rvTarget))), (1, .fn g [.ptr 900 0]), (7, .val (num l.length)), (8, .val (num i))], memOf [(900, .box [.val c])]⟩) (fun i => i ≤ l.length ∧ ∀ k (hk : k < i) (hk' : k < l.length), p l[k] = false) (fun i => l.length - i) 0 (Le.mk _ _ ?_ ?_) ?_ ?_
  · simp [upd, num]
  · simp
  · simp
  · rintro i ⟨hi, hne⟩
    simp [num]
    refine iteP_intro (fun h1 => ?_) (fun h1 => ?_)
    · have e1 := targets_at h1
      simp [RV.cells, RV.one, PV.cells, PV.solid, PV.one, vals?, allVal, mkAgg, setAt, RV.ofCells, elems, PV.killL, List.all_cons, List.all_nil, num, h1, e1, rvTarget, tx, hg]
      refine callS_valB (ids := [900]) rfl rfl (by simp) (by decide) (by simp [SameB, evalC_skip, evalC_reg, evalC_draw, evalC_seq, evalC_cond, evalC_block, evalC_exit, evalC_ret, then_normal, then_exit, then_ret, then_pan, inBlock_normal, inBlock_ret, inBlock_pan, inBlock_exit, condS_bool, evalOps_nil, evalOps_cons, evalX_nil, evalX_cons, guardS_none, guardS_some, setD_some, setD_none, ev_t, ev_k, Option.getD_some, Option.getD_none, stepE_mov, stepE_pick, stepE_alloc, stepE_box, stepE_build, stepE_store, stepE_app, stepE_nilck, stepE_bin, stepE_eqb, stepE_eqs, stepE_un, stepE_conv, stepE_faddr, stepE_fld, stepE_load, stepE_iaddr, stepE_idx, stepE_slc, stepE_ext, stepE_lens, stepE_len, stepE_tostr, stepE_mkfn, stepE_ifc, stepE_mn, stepE_mx, stepE_mks, stepE_isnil, stepE_lit, stepE_call, stepE_callv, stepX_mov, stepX_nilck, stepX_bin, stepX_eqb, stepX_eqs, stepX_un, stepX_conv, stepX_faddr, stepX_fld, stepX_load, stepX_iaddr, stepX_idx, stepX_slc, stepX_ext, stepX_lens, stepX_len, stepX_tostr, stepX_mkfn, stepX_ifc, stepX_mn, stepX_mx, stepX_pick, stepX_build, stepX_lit, stepX_call, stepX_callv, binS_int, binS_str, binI_add, binI_sub, binI_mul, binI_quo, binI_rem, binI_eql, binI_neq, binI_lss, binI_leq, binI_gtr, binI_geq, binStr_add, binStr_eql, binStr_neq, unS_not, unS_neg, upd_app, envOf_nil, envOf_cons, memOf_nil, memOf_cons, RetP_ret, RetP_normal, resP_t, resP_tt, fin_env, frz_val, frz_emp, frz_own, pl_val, pl_emp, kill_val, kill_own, kill_ptr, kill_emp, kill_elt, kill_at, kill_undef, kill_fn, kill_skip, killM_row, killM_box, killM_dead, Kx_k, fillP_nil, fillP_cons, slc_lo, slc_hi, slc_lohi, slcl_lo, slcl_hi, Option.map_some, Option.map_none, iteP_true, iteP_false, onBool_val, onBool_skip, nilck_ptr, nilck_elt, nilck_at, nilck_fn, eqb_val, eqs_val, conv_val, faddr_ptr, faddr_elt, faddr_at, fld_val, fld_agg, load_ptr, loadBox_box, load_elt, loadRow_row, load_at, iaddr_lst, iaddr_own, iaddrRow_row, idx_val, ext_tup, lens_val, len_val, len_emp, len_own, lenRow_row, tostr_val, tostr_emp, tostr_own, tostrRow_row, ifc_val, mn_val, mx_val, lit_some, fn_fn, mks_val, isnil_nilif, isnil_ifc, isnil_emp, isnil_list, isnil_own, isnilRow_row, store_ptrK, storeBox_box, store_eltK, storeRow_row, add_some, app_own, app_emp, appRow_row, addOf_list, addOf_emp, addOf_own, rowOf_row]) rfl (hp l[i] (List.getElem_mem h1)) ?_
      cases hpi : p l[i] with
      | true =>
        simp [RetB_ret, BoxesAt]
        rw [lidx_hit h1 hpi (fun k hk => hne k hk (by omega))]; rfl
      | false =>
        simp
        refine LoopNext.mk (i + 1) ⟨by omega, fun k hk hk' => ?_⟩ (by omega) (Le.mk _ _ ?_ ?_)
        · by_cases e : k = i
          · subst e; exact hpi
          · exact hne k (by omega) hk'
        · simp [num]; exact wrap_i64 (by omega) (by omega)
        · simp
    · have e : i = l.length := by omega
      subst e
      simp [num, RetB_ret, BoxesAt]
      rw [lidx_none (fun k hk => hne k hk hk)]

theorem i_ContainsFuncT (l : List LTarget) (g : Nat) (c : RV) (p : LTarget → Bool) (hl : l.length < 1099511627776) (hg : fnB Tryz.prog g = true)
    (hp : ∀ x ∈ l, CallOK Tryz.prog g [.val (rvTarget x), .box [c]] (.ret (.val (.bool (p x))) []) [[c]]) :
    CallOK Tryz.prog 160 [.val (.list 3 (l.map rvTarget)), .fn g [.box [c]]] (.ret (.val (.bool (l.any p))) []) [[c]] := by
  refine call_valB mixed ok160 rfl (fun _ => rfl) ?_
  unfold ir160
  rw [evalC_intro]
  simp [initSt, avPVs, avPV, avBoxesL, avBoxes, avPV, avPVs]
  refine callS_valB (ids := [900]) rfl rfl (by simp) (by decide) (by simp [SameB, evalC_skip, evalC_reg, evalC_draw, evalC_seq, evalC_cond, evalC_block, evalC_exit, evalC_ret, then_normal, then_exit, then_ret, then_pan, inBlock_normal, inBlock_ret, inBlock_pan, inBlock_exit, condS_bool, evalOps_nil, evalOps_cons, evalX_nil, evalX_cons, guardS_none, guardS_some, setD_some, setD_none, ev_t, ev_k, Option.getD_some, Option.getD_none, stepE_mov, stepE_pick, stepE_alloc, stepE_box, stepE_build, stepE_store, stepE_app, stepE_nilck, stepE_bin, stepE_eqb, stepE_eqs, stepE_un, stepE_conv, stepE_faddr, stepE_fld, stepE_load, stepE_iaddr, stepE_idx, stepE_slc, stepE_ext, stepE_lens, stepE_len, stepE_tostr, stepE_mkfn, stepE_ifc, stepE_mn, stepE_mx, stepE_mks, stepE_isnil, stepE_lit, stepE_call, stepE_callv, stepX_mov, stepX_nilck, stepX_bin, stepX_eqb, stepX_eqs, stepX_un, stepX_conv, stepX_faddr, stepX_fld, stepX_load, stepX_iaddr, stepX_idx, stepX_slc, stepX_ext, stepX_lens, stepX_len, stepX_tostr, stepX_mkfn, stepX_ifc, stepX_mn, stepX_mx, stepX_pick, stepX_build, stepX_lit, stepX_call, stepX_callv, binS_int, binS_str, binI_add, binI_sub, binI_mul, binI_quo, binI_rem, binI_eql, binI_neq, binI_lss, binI_leq, binI_gtr, binI_geq, binStr_add, binStr_eql, binStr_neq, unS_not, unS_neg, upd_app, envOf_nil, envOf_cons, memOf_nil, memOf_cons, RetP_ret, RetP_normal, resP_t, resP_tt, fin_env, frz_val, frz_emp, frz_own, pl_val, pl_emp, kill_val, kill_own, kill_ptr, kill_emp, kill_elt, kill_at, kill_undef, kill_fn, kill_skip, killM_row, killM_box, killM_dead, Kx_k, fillP_nil, fillP_cons, slc_lo, slc_hi, slc_lohi, slcl_lo, slcl_hi, Option.map_some, Option.map_none, iteP_true, iteP_false, onBool_val, onBool_skip, nilck_ptr, nilck_elt, nilck_at, nilck_fn, eqb_val, eqs_val, conv_val, faddr_ptr, faddr_elt, faddr_at, fld_val, fld_agg, load_ptr, loadBox_box, load_elt, loadRow_row, load_at, iaddr_lst, iaddr_own, iaddrRow_row, idx_val, ext_tup, lens_val, len_val, len_emp, len_own, lenRow_row, tostr_val, tostr_emp, tostr_own, tostrRow_row, ifc_val, mn_val, mx_val, lit_some, fn_fn, mks_val, isnil_nilif, isnil_ifc, isnil_emp, isnil_list, isnil_own, isnilRow_row, store_ptrK, storeBox_box, store_eltK, storeRow_row, add_some, app_own, app_emp, appRow_row, addOf_list, addOf_emp, addOf_own, rowOf_row]) rfl (i_IndexFuncT l g c p hl hg hp) ?_
  simp [num, RetB_ret, BoxesAt]
  exact lidx_ge l p

theorem i_hasUrl (l : List LTarget) (url : Tx) (hl : l.length < 1099511627776) : CallOK Tryz.prog 129 [.val (.list 3 (l.map rvTarget)), .val (tx url)] (.ret (.val (.bool (l.any fun x => decide (x.url = url)))) []) [] := by
  refine call_val mixed ok129 rfl (fun _ => rfl) ?_
  unfold ir129
  rw [evalC_intro]
  simp [initSt, avPVs, avPV, avBoxesL, avBoxes, RV.cells, RV.one, PV.cells, PV.solid, PV.one, vals?, allVal, mkAgg, setAt, RV.ofCells, elems, PV.killL, List.all_cons, List.all_nil, tx]
  refine callS_valB (ids := [3]) rfl rfl (by simp) (by decide) (by simp [SameB, evalC_skip, evalC_reg, evalC_draw, evalC_seq, evalC_cond, evalC_block, evalC_exit, evalC_ret, then_normal, then_exit, then_ret, then_pan, inBlock_normal, inBlock_ret, inBlock_pan, inBlock_exit, condS_bool, evalOps_nil, evalOps_cons, evalX_nil, evalX_cons, guardS_none, guardS_some, setD_some, setD_none, ev_t, ev_k, Option.getD_some, Option.getD_none, stepE_mov, stepE_pick, stepE_alloc, stepE_box, stepE_build, stepE_store, stepE_app, stepE_nilck, stepE_bin, stepE_eqb, stepE_eqs, stepE_un, stepE_conv, stepE_faddr, stepE_fld, stepE_load, stepE_iaddr, stepE_idx, stepE_slc, stepE_ext, stepE_lens, stepE_len, stepE_tostr, stepE_mkfn, stepE_ifc, stepE_mn, stepE_mx, stepE_mks, stepE_isnil, stepE_lit, stepE_call, stepE_callv, stepX_mov, stepX_nilck, stepX_bin, stepX_eqb, stepX_eqs, stepX_un, stepX_conv, stepX_faddr, stepX_fld, stepX_load, stepX_iaddr, stepX_idx, stepX_slc, stepX_ext, stepX_lens, stepX_len, stepX_tostr, stepX_mkfn, stepX_ifc, stepX_mn, stepX_mx, stepX_pick, stepX_build, stepX_lit, stepX_call, stepX_callv, binS_int, binS_str, binI_add, binI_sub, binI_mul, binI_quo, binI_rem, binI_eql, binI_neq, binI_lss, binI_leq, binI_gtr, binI_geq, binStr_add, binStr_eql, binStr_neq, unS_not, unS_neg, upd_app, envOf_nil, envOf_cons, memOf_nil, memOf_cons, RetP_ret, RetP_normal, resP_t, resP_tt, fin_env, frz_val, frz_emp, frz_own, pl_val, pl_emp, kill_val, kill_own, kill_ptr, kill_emp, kill_elt, kill_at, kill_undef, kill_fn, kill_skip, killM_row, killM_box, killM_dead, Kx_k, fillP_nil, fillP_cons, slc_lo, slc_hi, slc_lohi, slcl_lo, slcl_hi, Option.map_some, Option.map_none, iteP_true, iteP_false, onBool_val, onBool_skip, nilck_ptr, nilck_elt, nilck_at, nilck_fn, eqb_val, eqs_val, conv_val, faddr_ptr, faddr_elt, faddr_at, fld_val, fld_agg, load_ptr, loadBox_box, load_elt, loadRow_row, load_at, iaddr_lst, iaddr_own, iaddrRow_row, idx_val, ext_tup, lens_val, len_val, len_emp, len_own, lenRow_row, tostr_val, tostr_emp, tostr_own, tostrRow_row, ifc_val, mn_val, mx_val, lit_some, fn_fn, mks_val, isnil_nilif, isnil_ifc, isnil_emp, isnil_list, isnil_own, isnilRow_row, store_ptrK, storeBox_box, store_eltK, storeRow_row, add_some, app_own, app_emp, appRow_row, addOf_list, addOf_emp, addOf_own, rowOf_row, tx]) rfl (i_ContainsFuncT l 161 (tx url) (fun x => decide (x.url = url)) hl (by kernel_rfl) (fun x _ => i_hasUrl1 x url)) ?_
  simp
end Go.Proofs
end

/- What the program's look at peers comes to. -/
section
set_option maxRecDepth 100000
set_option linter.unusedVariables false
set_option linter.unusedSectionVars false
set_option linter.unusedSimpArgs false
namespace Go.Proofs
open Go.PW Go.KP
variable [GH]

theorem any_url (l : List LTarget) (url : Tx) : (l.any fun x => decide (x.url = url)) = decide (url ∈ l.map fun t => t.url) := by
  rw [Bool.eq_iff_iff]
  simp only [List.any_eq_true, decide_eq_true_eq, List.mem_map]

theorem i_areUnlike (l : List LTarget) (hl : l.length < 1099511627776) : CallOK Tryz.prog 93 [.val (.list 3 (l.map rvTarget))] (.ret (.val (.bool (tunlike l))) []) [] := by
  refine call_val mixed ok93 rfl (fun _ => rfl) ?_
  unfold ir93
  rw [evalC_intro]
  simp [initSt, avPVs, avPV, avBoxesL, avBoxes, RV.cells, RV.one, PV.cells, PV.solid, PV.one, vals?, allVal, mkAgg, setAt, RV.ofCells, elems, PV.killL, List.all_cons, List.all_nil]
  refine loop_EC (X := Nat) (fun i => ⟨envOf [(0, .val (.list 3 (l.map rvTarget))), (5, .val (.list 3 (l.map rvTarget))), (6, .val (num l.length)), (7, .val (num i))], memOf []⟩) (fun i => i ≤ l.length ∧ tunlike (l.take i) = true) (fun i => l.length - i) 0 (Le.mk _ _ ?_ ?_) ?_ ?_
  · simp [upd, num]
  · simp
  · simp [tunlike, lunlike]
  · rintro i ⟨hi, hinv⟩
    simp [num]
    refine iteP_intro (fun h1 => ?_) (fun h1 => ?_)
    · have e1 := targets_at h1
      simp [RV.cells, RV.one, PV.cells, PV.solid, PV.one, vals?, allVal, mkAgg, setAt, RV.ofCells, elems, PV.killL, List.all_cons, List.all_nil, num, h1, e1, rvTarget, tx, show i ≤ l.length by omega]
      have hh := i_hasUrl (l.take i) l[i].url (by simp; omega)
      rw [any_url, List.map_take] at hh
      refine callS_val rfl rfl (.inl rfl) hh ?_
      have ht := tunlike_take l i h1
      by_cases hm : l[i].url ∈ (l.take i).map fun t => t.url
      · rw [decide_eq_true hm]
        have : tunlike l = false := tunlike_false l (i + 1) (by rw [ht, hinv, decide_eq_false (fun h => h hm)]; rfl)
        rw [this]
        simp
      · rw [decide_eq_false hm]
        simp
        refine LoopNext.mk (i + 1) ⟨by omega, ?_⟩ (by omega) (Le.mk _ _ ?_ ?_)
        · rw [ht, hinv, decide_eq_true hm]; rfl
        · simp [num]; exact wrap_i64 (by omega) (by omega)
        · simp
    · have e : i = l.length := by omega
      subst e
      rw [List.take_length] at hinv
      rw [hinv]
      simp

def tgs (l : List LPeer) : List LTarget := l.map fun p => p.target
theorem i_targetsOf (l : List LPeer) (hl : l.length < 1099511627776) : CallOK Tryz.prog 94 [.val (rvPeers l)] (.ret (.val (.list 3 ((tgs l).map rvTarget))) []) [] := by
  refine call_val mixed ok94 rfl (fun _ => rfl) ?_
  unfold ir94
  rw [evalC_intro]
  simp [initSt, avPVs, avPV, avBoxesL, avBoxes, RV.cells, RV.one, PV.cells, PV.solid, PV.one, vals?, allVal, mkAgg, setAt, RV.ofCells, elems, PV.killL, List.all_cons, List.all_nil, rvPeers, elems]
  refine loop_EC (X := Nat) (fun i => ⟨envOf [(3, .own 6), (7, .val (rvPeers l)), (8, .val (num l.length)), (9, .val (num i))], memOf [(6, .row 55 3 ((tgs (l.take i)).map rvTarget))]⟩) (fun i => i ≤ l.length) (fun i => l.length - i) 0 (Le.mk _ _ ?_ ?_) ?_ ?_
  · simp [upd, num, rvPeers, PV.kill]
  · simp [upd, tgs]
  · simp
  · intro i hi
    simp [num, rvPeers]
    refine iteP_intro (fun h1 => ?_) (fun h1 => ?_)
    · have e1 := peers_at h1
      rw [List.getD_eq_getElem?_getD] at e1
      have hlen : (tgs (l.take i)).length = i := by simp [tgs]; omega
      have hsucc : (tgs (l.take (i + 1))).map rvTarget = (tgs (l.take i)).map rvTarget ++ [rvTarget l[i].target] := by
        unfold tgs
        rw [List.take_add_one, List.getElem?_eq_getElem h1, List.map_append, List.map_append]
        rfl
      simp [RV.cells, RV.one, PV.cells, PV.solid, PV.one, vals?, allVal, mkAgg, setAt, RV.ofCells, elems, PV.killL, List.all_cons, List.all_nil, num, rvPeers, h1, e1, rvPeer, tx, elems, allVal, hlen, RV.one]
      refine ⟨by omega, by omega, ?_⟩
      refine LoopNext.mk (i + 1) (by omega) (by omega) (Le.mk _ _ ?_ ?_)
      · simp [rvPeers, num]; exact wrap_i64 (by omega) (by omega)
      · rw [hsucc]
        simp [rvTarget, num, tx]
    · have e1 : i = l.length := by omega
      subst e1
      simp [RV.cells, RV.one, PV.cells, PV.solid, PV.one, vals?, allVal, mkAgg, setAt, RV.ofCells, elems, PV.killL, List.all_cons, List.all_nil, num, rvPeers, frzOf]

/-- Where the look at a peer stands. -/
structure JP (st : St) (x : LPeer) : Prop where
  e1 : st.env 1 = .ptr 1 0
  m1 : st.mem 1 = .box (peerCells x)
section
variable {Ks : Kx (St → Prop)} {kx : Kx (RV → St → Prop)} {st : St} {x : LPeer} {b : Bool}
theorem qops20 (h : JP st x) (hb : st.env 19 = .val (.bool b)) (hK : ∀ st', st'.env 2 = .val (.bool (b || pb36 x)) → Ks.k st') : EO Tryz.prog ir96_o20 st (Ks := Ks) (kx := kx) := by
  unfold ir96_o20
  cases b with
  | true =>
    simp [hb]
    exact hK _ (by simp)
  | false =>
    by_cases h0 : x.fails = 0
    · by_cases h1 : x.retry = 0
      · simp [RV.cells, RV.one, PV.cells, PV.solid, PV.one, vals?, allVal, mkAgg, setAt, RV.ofCells, elems, PV.killL, List.all_cons, List.all_nil, hb, h.e1, h.m1, peerCells, num, h0, h1]
        exact hK _ (by simp [pb36, h0, h1])
      · simp [RV.cells, RV.one, PV.cells, PV.solid, PV.one, vals?, allVal, mkAgg, setAt, RV.ofCells, elems, PV.killL, List.all_cons, List.all_nil, hb, h.e1, h.m1, peerCells, num, h0, h1]
        exact hK _ (by simp [pb36, h0, h1])
    · simp [RV.cells, RV.one, PV.cells, PV.solid, PV.one, vals?, allVal, mkAgg, setAt, RV.ofCells, elems, PV.killL, List.all_cons, List.all_nil, hb, h.e1, h.m1, peerCells, num, h0]
      exact hK _ (by simp [pb36, h0])
theorem qops14 (h : JP st x) (hb : st.env 13 = .val (.bool b)) (hK : ∀ st', st'.env 2 = .val (.bool (b || pb30 x)) → Ks.k st') : EO Tryz.prog ir96_o14 st (Ks := Ks) (kx := kx) := by
  unfold ir96_o14
  cases b with
  | true =>
    simp [hb]
    refine qops20 (x := x) (b := true) ⟨?_, ?_⟩ ?_ (fun st' q2 => hK st' (by simpa using q2)) <;> simp [h.e1, h.m1]
  | false =>
    simp [RV.cells, RV.one, PV.cells, PV.solid, PV.one, vals?, allVal, mkAgg, setAt, RV.ofCells, elems, PV.killL, List.all_cons, List.all_nil, hb, h.e1, h.m1, peerCells, num]
    refine callS_val rfl rfl (.inl rfl) (i_within x.retry 0 1000032) ?_
    simp [RV.cells, RV.one, PV.cells, PV.solid, PV.one, vals?, allVal, mkAgg, setAt, RV.ofCells, elems, PV.killL, List.all_cons, List.all_nil, hb]
    refine qops20 (x := x) (b := !decide (0 ≤ x.retry ∧ x.retry ≤ 1000032)) ⟨?_, ?_⟩ ?_ (fun st' q2 => hK st' (by rw [q2]; simp [pb30])) <;> simp [h.e1, h.m1]
theorem qops8 (h : JP st x) (hb : st.env 7 = .val (.bool b)) (hK : ∀ st', st'.env 2 = .val (.bool (b || pb24 x)) → Ks.k st') : EO Tryz.prog ir96_o8 st (Ks := Ks) (kx := kx) := by
  unfold ir96_o8
  cases b with
  | true =>
    simp [hb]
    refine qops14 (x := x) (b := true) ⟨?_, ?_⟩ ?_ (fun st' q2 => hK st' (by simpa using q2)) <;> simp [h.e1, h.m1]
  | false =>
    simp [RV.cells, RV.one, PV.cells, PV.solid, PV.one, vals?, allVal, mkAgg, setAt, RV.ofCells, elems, PV.killL, List.all_cons, List.all_nil, hb, h.e1, h.m1, peerCells, num]
    refine callS_val rfl rfl (.inl rfl) (i_within x.fails 0 1000000) ?_
    simp [RV.cells, RV.one, PV.cells, PV.solid, PV.one, vals?, allVal, mkAgg, setAt, RV.ofCells, elems, PV.killL, List.all_cons, List.all_nil, hb]
    refine qops14 (x := x) (b := !decide (0 ≤ x.fails ∧ x.fails ≤ 1000000)) ⟨?_, ?_⟩ ?_ (fun st' q2 => hK st' (by rw [q2]; simp [pb24])) <;> simp [h.e1, h.m1]
end

theorem i_PeersOK1 (x : LPeer) (hx : x.target.url.length < 1048577) : CallOK Tryz.prog 96 [.val (rvPeer x)] (.ret (.val (.bool (!lpeerOK x))) []) [] := by
  refine call_val mixed ok96 rfl (fun _ => rfl) ?_
  unfold ir96
  rw [evalC_intro, lpeerOK_eq, Bool.not_not]
  simp [initSt, avPVs, avPV, avBoxesL, avBoxes, RV.cells, RV.one, PV.cells, PV.solid, PV.one, vals?, allVal, mkAgg, setAt, RV.ofCells, elems, PV.killL, List.all_cons, List.all_nil, rvPeer, tx, num, allVal]
  refine callS_val rfl rfl (.inl rfl) (i_targetOK x.target hx) ?_
  simp [RV.cells, RV.one, PV.cells, PV.solid, PV.one, vals?, allVal, mkAgg, setAt, RV.ofCells, elems, PV.killL, List.all_cons, List.all_nil]
  refine qops8 (x := x) (b := !ltargetOK x.target) ⟨?_, ?_⟩ ?_ (fun st' q => ?_)
  · simp
  · simp [peerCells, tx, num]
  · simp
  · simp [q]

theorem i_IndexFuncP (l : List LPeer) (g : Nat) (p : LPeer → Bool) (hl : l.length < 1099511627776) (hg : fnB Tryz.prog g = true)
    (hp : ∀ x ∈ l, CallOK Tryz.prog g [.val (rvPeer x)] (.ret (.val (.bool (p x))) []) []) :
    CallOK Tryz.prog 130 [.val (rvPeers l), .fn g []] (.ret (.val (num (lidx l p))) []) [] := by
  refine call_val mixed ok130 rfl (fun _ => rfl) ?_
  unfold ir130
  rw [evalC_intro]
  simp [initSt, avPVs, avPV, avBoxesL, avBoxes, avPV, avPVs, rvPeers]
  refine loop_EC (X := Nat) (fun i => ⟨envOf [(0, .val (rvPeers l)), (1, .fn g []), (7, .val (num l.length)), (8, .val (num i))], memOf []⟩) (fun i => i ≤ l.length ∧ ∀ k (hk : k < i) (hk' : k < l.length), p l[k] = false) (fun i => l.length - i) 0 (Le.mk _ _ ?_ ?_) ?_ ?_
  · simp [upd, num, rvPeers]
  · simp
  · simp
  · rintro i ⟨hi, hne⟩
    simp [num, rvPeers]
    refine iteP_intro (fun h1 => ?_) (fun h1 => ?_)
    · have e1 := peers_at h1
      rw [List.getD_eq_getElem?_getD] at e1
      simp [RV.cells, RV.one, PV.cells, PV.solid, PV.one, vals?, allVal, mkAgg, setAt, RV.ofCells, elems, PV.killL, List.all_cons, List.all_nil, num, rvPeers, h1, e1, rvPeer, tx, hg]
      refine callS_val rfl rfl (.inl rfl) (hp l[i] (List.getElem_mem h1)) ?_
      cases hpi : p l[i] with
      | true =>
        simp
        rw [lidx_hit h1 hpi (fun k hk => hne k hk (by omega))]; rfl
      | false =>
        simp
        refine LoopNext.mk (i + 1) ⟨by omega, fun k hk hk' => ?_⟩ (by omega) (Le.mk _ _ ?_ ?_)
        · by_cases e : k = i
          · subst e; exact hpi
          · exact hne k (by omega) hk'
        · simp [num, rvPeers]; exact wrap_i64 (by omega) (by omega)
        · simp
    · have e : i = l.length := by omega
      subst e
      simp [num]
      rw [lidx_none (fun k hk => hne k hk hk)]

theorem i_ContainsFuncP (l : List LPeer) (g : Nat) (p : LPeer → Bool) (hl : l.length < 1099511627776) (hg : fnB Tryz.prog g = true)
    (hp : ∀ x ∈ l, CallOK Tryz.prog g [.val (rvPeer x)] (.ret (.val (.bool (p x))) []) []) :
    CallOK Tryz.prog 95 [.val (rvPeers l), .fn g []] (.ret (.val (.bool (l.any p))) []) [] := by
  refine call_val mixed ok95 rfl (fun _ => rfl) ?_
  unfold ir95
  rw [evalC_intro, ← lidx_ge l p]
  simp [initSt, avPVs, avPV, avBoxesL, avBoxes, avPV, avPVs, rvPeers]
  refine callS_val rfl rfl (.inl rfl) (i_IndexFuncP l g p hl hg hp) ?_
  simp [num]

theorem i_PeersOK (l : List LPeer) (hl : l.length < 1099511627776) (hs : ∀ p ∈ l, p.target.url.length < 1048577) : CallOK Tryz.prog 60 [.val (rvPeers l)] (.ret (.val (.bool (lpeersOK l))) []) [] := by
  refine call_val mixed ok60 rfl (fun _ => rfl) ?_
  unfold ir60
  rw [evalC_intro]
  by_cases h4 : 4 < l.length
  · have h4' : (4 : Int) < l.length := by omega
    have e : lpeersOK l = false := by
      unfold lpeersOK
      rw [decide_eq_false (by omega)]; rfl
    simp [initSt, avPVs, avPV, avBoxesL, avBoxes, RV.cells, RV.one, PV.cells, PV.solid, PV.one, vals?, allVal, mkAgg, setAt, RV.ofCells, elems, PV.killL, List.all_cons, List.all_nil, rvPeers, h4', e]
  · have h4' : ¬ (4 : Int) < l.length := by omega
    have e : lpeersOK l = (tunlike (tgs l) && !(l.any fun x => !lpeerOK x)) := by
      unfold lpeersOK tgs
      rw [decide_eq_true (by omega), tunlike_peers, Bool.true_and, Bool.and_comm]
      congr 1
      rw [Bool.eq_iff_iff]
      simp
    rw [e]
    simp [initSt, avPVs, avPV, avBoxesL, avBoxes, RV.cells, RV.one, PV.cells, PV.solid, PV.one, vals?, allVal, mkAgg, setAt, RV.ofCells, elems, PV.killL, List.all_cons, List.all_nil, rvPeers, h4']
    refine callS_val rfl rfl (.inl rfl) (i_targetsOf l hl) ?_
    simp [RV.cells, RV.one, PV.cells, PV.solid, PV.one, vals?, allVal, mkAgg, setAt, RV.ofCells, elems, PV.killL, List.all_cons, List.all_nil]
    refine callS_val rfl rfl (.inl rfl) (i_areUnlike (tgs l) (by simp [tgs]; omega)) ?_
    cases hu : tunlike (tgs l) with
    | false => simp
    | true =>
      simp only [Bool.true_and]
      simp
      refine callS_val rfl rfl (.inl rfl) (i_ContainsFuncP l 96 (fun x => !lpeerOK x) hl (by kernel_rfl) (fun x hx => i_PeersOK1 x (hs x hx))) ?_
      simp

theorem i_peersCode (l : List LPeer) (hl : l.length < 1099511627776) (hs : ∀ p ∈ l, p.target.url.length < 1048577) : CallOK Tryz.prog 33 [.val (rvPeers l)] (.ret (.val (num (if 4096 < l.length then 2 else if lpeersOK l then 0 else 1))) []) [] := by
  refine call_val mixed ok33 rfl (fun _ => rfl) ?_
  unfold ir33
  rw [evalC_intro]
  simp [initSt, avPVs, avPV, avBoxesL, avBoxes, RV.cells, RV.one, PV.cells, PV.solid, PV.one, vals?, allVal, mkAgg, setAt, RV.ofCells, elems, PV.killL, List.all_cons, List.all_nil, rvPeers, num]
  refine callS_val rfl rfl (.inl rfl) (i_longList l.length) ?_
  simp [RV.cells, RV.one, PV.cells, PV.solid, PV.one, vals?, allVal, mkAgg, setAt, RV.ofCells, elems, PV.killL, List.all_cons, List.all_nil, num]
  refine callS_val rfl rfl (.inl rfl) (i_PeersOK l hl hs) ?_
  simp [RV.cells, RV.one, PV.cells, PV.solid, PV.one, vals?, allVal, mkAgg, setAt, RV.ofCells, elems, PV.killL, List.all_cons, List.all_nil, num]
  refine callS_val rfl rfl (.inl rfl) (i_unless (lpeersOK l) 1) ?_
  simp [RV.cells, RV.one, PV.cells, PV.solid, PV.one, vals?, allVal, mkAgg, setAt, RV.ofCells, elems, PV.killL, List.all_cons, List.all_nil, num, elems]
  have hf := i_first [if (l.length : Int) ≤ 4096 then 0 else 2, if lpeersOK l then 0 else 1] (by simp)
  refine callS_val rfl rfl (.inr rfl) hf ?_
  simp [num]
  by_cases h : 4096 < l.length
  · rw [if_pos h, if_neg (by omega), lfirst_ne (by decide)]
  · rw [if_neg h, if_pos (by omega), lfirst_zero]
    cases lpeersOK l
    · simp [lfirst]
    · simp [lfirst]
end Go.Proofs
end

/- What the program's waking comes to, and the law. -/
section
set_option maxRecDepth 100000
set_option linter.unusedVariables false
set_option linter.unusedSectionVars false
set_option linter.unusedSimpArgs false
namespace Go.Proofs
open Go.PW Go.KP
variable [GH]

theorem iwake_l25 {K : Kx (PExit → St → Prop)} (l : List LPeer) (now : Int) (hl : l.length < 1099511627776) (i : Nat) (hi : i ≤ l.length) 
    (hx : i = l.length → ∀ st' : St, st'.env 7 = .val (num ((lwake now l).getD 0)) → st'.env 8 = .val (.bool (lwake now l).isSome) → K.k (.exit 0) st')
    (hn : i < l.length → ∀ st' : St, st'.env 1 = .val (num now) → st'.env 7 = .val (num ((lwake now (l.take (i + 1))).getD 0)) → st'.env 8 = .val (.bool (lwake now (l.take (i + 1))).isSome) → st'.env 22 = .val (rvPeers l) → st'.env 23 = .val (num l.length) → st'.env 24 = .val (num ((i + 1 : Nat) : Int)) → K.k .normal st') :
    EC Tryz.prog ir11_l25 ⟨envOf [(1, .val (num now)), (7, .val (num ((lwake now (l.take i)).getD 0))), (8, .val (.bool (lwake now (l.take i)).isSome)), (22, .val (rvPeers l)), (23, .val (num l.length)), (24, .val (num i))], memOf []⟩ (K := K) := by
  unfold ir11_l25
  simp [RV.cells, RV.one, PV.cells, PV.solid, PV.one, vals?, allVal, mkAgg, setAt, RV.ofCells, elems, PV.killL, List.all_cons, List.all_nil, num, rvPeers]
  refine iteP_intro (fun h1 => ?_) (fun h1 => ?_)
  · have e1 := peers_at h1
    rw [List.getD_eq_getElem?_getD] at e1
    have hsn : lwake now (l.take (i + 1)) = wakeStep now (lwake now (l.take i)) l[i] := by
      rw [List.take_add_one, List.getElem?_eq_getElem h1]
      exact lwake_snoc _ _ _
    have hmx : (if now < l[i].retry then l[i].retry else now) = max now l[i].retry := by
      split <;> omega
    have hwi : IntKind.i64.wrap ((i : Int) + 1) = (i : Int) + 1 := wrap_i64 (by omega) (by omega)
    rw [hsn] at hn
    simp [RV.cells, RV.one, PV.cells, PV.solid, PV.one, vals?, allVal, mkAgg, setAt, RV.ofCells, elems, PV.killL, List.all_cons, List.all_nil, num, rvPeers, h1, e1, rvPeer, tx]
    cases hg : l[i].gone with
    | true =>
      simp [RV.cells, RV.one, PV.cells, PV.solid, PV.one, vals?, allVal, mkAgg, setAt, RV.ofCells, elems, PV.killL, List.all_cons, List.all_nil]
      refine hn h1 _ ?_ ?_ ?_ ?_ ?_ ?_
      · simp [num]
      · simp [num, wakeStep, hg]
      · simp [wakeStep, hg]
      · simp [rvPeers]
      · simp [num]
      · simp [num, hwi]
    | false =>
      cases hacc : lwake now (l.take i) with
      | none =>
        simp [RV.cells, RV.one, PV.cells, PV.solid, PV.one, vals?, allVal, mkAgg, setAt, RV.ofCells, elems, PV.killL, List.all_cons, List.all_nil, hmx]
        refine hn h1 _ ?_ ?_ ?_ ?_ ?_ ?_
        · simp [num]
        · simp [num, wakeStep, hg, hacc]
        · simp [wakeStep, hg, hacc]
        · simp [rvPeers]
        · simp [num]
        · simp [num, hwi]
      | some b =>
        by_cases hlt : max now l[i].retry < b
        · simp [RV.cells, RV.one, PV.cells, PV.solid, PV.one, vals?, allVal, mkAgg, setAt, RV.ofCells, elems, PV.killL, List.all_cons, List.all_nil, hmx, hlt]
          refine hn h1 _ ?_ ?_ ?_ ?_ ?_ ?_
          · simp [num]
          · simp [num, wakeStep, hg, hacc, hlt]
          · simp [wakeStep, hg, hacc, hlt]
          · simp [rvPeers]
          · simp [num]
          · simp [num, hwi]
        · simp [RV.cells, RV.one, PV.cells, PV.solid, PV.one, vals?, allVal, mkAgg, setAt, RV.ofCells, elems, PV.killL, List.all_cons, List.all_nil, hmx, hlt]
          refine hn h1 _ ?_ ?_ ?_ ?_ ?_ ?_
          · simp [num]
          · simp [num, wakeStep, hg, hacc, hlt]
          · simp [wakeStep, hg, hacc, hlt]
          · simp [rvPeers]
          · simp [num]
          · simp [num, hwi]
  · have e : i = l.length := by omega
    subst e
    rw [List.take_length]
    simp
    refine hx rfl _ ?_ ?_ <;> simp [num]

theorem i_NextWake (l : List LPeer) (now : Int) (hl : l.length < 1099511627776) (hs : ∀ p ∈ l, p.target.url.length < 1048577) : CallOK Tryz.prog 11 [.val (rvPeers l), .val (num now)] (.ret (wakeRes (lnextWake l now)) []) [] := by
  refine call_val mixed ok11 rfl (fun _ => rfl) ?_
  unfold ir11
  rw [evalC_intro]
  have hpc := i_peersCode l hl hs
  unfold lnextWake
  have hisn := i_isNow now
  generalize hb : decide (0 ≤ now ∧ now ≤ 1000000) = b at hisn
  simp [initSt, avPVs, avPV, avBoxesL, avBoxes, RV.cells, RV.one, PV.cells, PV.solid, PV.one, vals?, allVal, mkAgg, setAt, RV.ofCells, elems, PV.killL, List.all_cons, List.all_nil, rvPeers, num]
  refine callS_val rfl rfl (.inl rfl) hpc ?_
  simp [RV.cells, RV.one, PV.cells, PV.solid, PV.one, vals?, allVal, mkAgg, setAt, RV.ofCells, elems, PV.killL, List.all_cons, List.all_nil, num]
  refine callS_val rfl rfl (.inl rfl) hisn ?_
  simp [RV.cells, RV.one, PV.cells, PV.solid, PV.one, vals?, allVal, mkAgg, setAt, RV.ofCells, elems, PV.killL, List.all_cons, List.all_nil, num]
  refine callS_val rfl rfl (.inl rfl) (i_unless b 4) ?_
  simp [RV.cells, RV.one, PV.cells, PV.solid, PV.one, vals?, allVal, mkAgg, setAt, RV.ofCells, elems, PV.killL, List.all_cons, List.all_nil, num, elems]
  refine callS_val rfl rfl (.inr rfl) (i_first [if 4096 < l.length then 2 else if lpeersOK l then 0 else 1, if b then 0 else 4] (by simp)) ?_
  by_cases h : 4096 < l.length
  · rw [if_pos h, if_pos h, lfirst_ne (by decide)]
    simp [num, wakeRes]
  · rw [if_neg h, if_neg h]
    cases hok : lpeersOK l with
    | false =>
      rw [if_neg (by simp), if_neg (by simp), lfirst_ne (by decide)]
      simp [num, wakeRes]
    | true =>
      rw [if_pos rfl, if_pos rfl, lfirst_zero]
      by_cases hn : 0 ≤ now ∧ now ≤ 1000000
      · rw [decide_eq_true hn] at hb
        subst hb
        rw [if_pos hn, if_pos rfl, show lfirst [0] = 0 from rfl]
        simp [num]
        refine loop_EC (X := Nat) (fun i => ⟨envOf [(1, .val (num now)), (7, .val (num ((lwake now (l.take i)).getD 0))), (8, .val (.bool (lwake now (l.take i)).isSome)), (22, .val (rvPeers l)), (23, .val (num l.length)), (24, .val (num i))], memOf []⟩) (fun i => i ≤ l.length) (fun i => l.length - i) 0 (Le.mk _ _ ?_ ?_) (Nat.zero_le _) ?_
        · simp [upd, rvPeers, num, lwake, PV.kill]
        · simp
        · intro i hi
          refine iwake_l25 l now hl i hi (fun hil st' q7 q8 => ?_) (fun hil st' q1 q7 q8 q22 q23 q24 => ?_)
          · simp [q8]
            cases hw : lwake now l with
            | none =>
              simp [num, wakeRes]
            | some n =>
              rw [hw] at q7
              simp [q7, wakeRes, num]
          · simp
            refine LoopNext.mk (i + 1) (by omega) (by omega) (Le.mk _ _ ?_ ?_)
            · simp [q1, q7, q8, q22, q23, q24]
            · simp
      · rw [decide_eq_false hn] at hb
        subst hb
        rw [if_neg hn, if_neg (by simp), lfirst_ne (by decide)]
        simp [num, wakeRes]

theorem lsz_small {l : List LPeer} {left : Int} (h0 : 0 ≤ left) (h1 : left ≤ 1048576) (h : ¬ lsz l left < 0) : l.length ≤ 1048576 ∧ ∀ p ∈ l, p.target.url.length ≤ 1048576 := by
  unfold lsz at h
  split at h
  · exact absurd (by omega) h
  · refine ⟨by omega, fun p hp => ?_⟩
    have := ltot_mem hp
    omega

theorem law_NextWake (l : List LPeer) (now : Int) (hl : l.length ≤ 9223372036854775807) (hx : ∀ p ∈ l, p.target.url.length ≤ 9223372036854775807) : CallOK Tryz.prog 3 [.val (rvPeers l), .val (num now)] (.ret (.val (.bool true)) []) [] := by
  refine call_val mixed ok3 rfl (fun _ => rfl) ?_
  unfold ir3
  rw [evalC_intro]
  simp [initSt, avPVs, avPV, avBoxesL, avBoxes, RV.cells, RV.one, PV.cells, PV.solid, PV.one, vals?, allVal, mkAgg, setAt, RV.ofCells, elems, PV.killL, List.all_cons, List.all_nil, rvPeers, num]
  refine callS_val rfl rfl (.inl rfl) (c_szPeerS l 1048576 (by omega) (by omega) hl hx) ?_
  simp [RV.cells, RV.one, PV.cells, PV.solid, PV.one, vals?, allVal, mkAgg, setAt, RV.ofCells, elems, PV.killL, List.all_cons, List.all_nil, num]
  refine iteP_intro (fun h => ?_) (fun h => ?_)
  · simp
  · obtain ⟨hl2, hx2⟩ := lsz_small (by omega) (by omega) h
    have hl3 : l.length < 1099511627776 := by omega
    simp [RV.cells, RV.one, PV.cells, PV.solid, PV.one, vals?, allVal, mkAgg, setAt, RV.ofCells, elems, PV.killL, List.all_cons, List.all_nil, num]
    refine callS_val rfl rfl (.inl rfl) (c_toPeerS l hl3) ?_
    simp [RV.cells, RV.one, PV.cells, PV.solid, PV.one, vals?, allVal, mkAgg, setAt, RV.ofCells, elems, PV.killL, List.all_cons, List.all_nil, num, rvPeers]
    refine callS_two rfl rfl (.inl rfl) (c_specNextWake l now hl3 (fun p hp => by have := hx2 p hp; omega)) ?_
    generalize hr : lnextWake l now = r
    obtain ⟨a, c⟩ := r
    simp [RV.cells, RV.one, PV.cells, PV.solid, PV.one, vals?, allVal, mkAgg, setAt, RV.ofCells, elems, PV.killL, List.all_cons, List.all_nil, num, rvPeers]
    refine callS_val rfl rfl (.inl rfl) (c_toPeerS l hl3) ?_
    simp [RV.cells, RV.one, PV.cells, PV.solid, PV.one, vals?, allVal, mkAgg, setAt, RV.ofCells, elems, PV.killL, List.all_cons, List.all_nil, num, rvPeers]
    have hi := i_NextWake l now hl3 (fun p hp => by have := hx2 p hp; omega)
    rw [hr] at hi
    refine callS_two rfl rfl (.inl rfl) hi ?_
    simp [RV.cells, RV.one, PV.cells, PV.solid, PV.one, vals?, allVal, mkAgg, setAt, RV.ofCells, elems, PV.killL, List.all_cons, List.all_nil, num, rvPeers]
    refine callS_val rfl rfl (.inl rfl) (c_toPeerS l hl3) ?_
    simp [RV.cells, RV.one, PV.cells, PV.solid, PV.one, vals?, allVal, mkAgg, setAt, RV.ofCells, elems, PV.killL, List.all_cons, List.all_nil, num, rvPeers]
    refine callS_val rfl rfl (.inl rfl) (c_eqPeerS l hl3) ?_
    simp [RV.cells, RV.one, PV.cells, PV.solid, PV.one, vals?, allVal, mkAgg, setAt, RV.ofCells, elems, PV.killL, List.all_cons, List.all_nil, num, rvPeers]
end Go.Proofs
end

/- What the program's choosing of a peer comes to, and the law. -/
section
set_option maxRecDepth 100000
set_option linter.unusedVariables false
set_option linter.unusedSectionVars false
set_option linter.unusedSimpArgs false
namespace Go.Proofs
open Go.PW Go.KP
variable [GH]

theorem ichoose_l16 {K : Kx (PExit → St → Prop)} (l : List LPeer) (now draw b s : Int) (hl : l.length ≤ 4) (hg : chGood l) (i : Nat) (hi : i ≤ l.length) (hinv : ChInv now (l.take i) (b, s))
    (hx : i = l.length → ∀ st' : St, st'.env 0 = .val (rvPeers l) → st'.env 1 = .val (num now) → st'.env 2 = .val (num draw) → st'.env 7 = .val (num (chI (b, s))) → st'.env 8 = .val (num s) → K.k (.exit 0) st')
    (hn : ∀ h : i < l.length, ∀ st' : St, st'.env 0 = .val (rvPeers l) → st'.env 1 = .val (num now) → st'.env 2 = .val (num draw) → st'.env 7 = .val (num (chI (chStep now (b, s) l[i]))) → st'.env 8 = .val (num (chStep now (b, s) l[i]).2) → st'.env 13 = .val (rvPeers l) → st'.env 14 = .val (num l.length) → st'.env 15 = .val (num ((i + 1 : Nat) : Int)) → K.k .normal st') :
    EC Tryz.prog ir45_l16 ⟨envOf [(0, .val (rvPeers l)), (1, .val (num now)), (2, .val (num draw)), (7, .val (num (chI (b, s)))), (8, .val (num s)), (13, .val (rvPeers l)), (14, .val (num l.length)), (15, .val (num i))], memOf []⟩ (K := K) := by
  unfold ir45_l16
  simp [RV.cells, RV.one, PV.cells, PV.solid, PV.one, vals?, allVal, mkAgg, setAt, RV.ofCells, elems, PV.killL, List.all_cons, List.all_nil, num, rvPeers]
  refine iteP_intro (fun h1 => ?_) (fun h1 => ?_)
  · have e1 := peers_at h1
    rw [List.getD_eq_getElem?_getD] at e1
    have hwi : IntKind.i64.wrap ((i : Int) + 1) = (i : Int) + 1 := wrap_i64 (by omega) (by omega)
    have hgi := hg _ (List.getElem_mem h1)
    have hlo : 0 ≤ s := hinv.lo
    have hhi : s ≤ 9 * (l.take i).length := hinv.hi
    rw [List.length_take] at hhi
    have hsw : IntKind.i64.wrap (s + l[i].target.weight) = s + l[i].target.weight := wrap_i64 (by omega) (by omega)
    have h0w : IntKind.i64.wrap l[i].target.weight = l[i].target.weight := wrap_i64 (by omega) (by omega)
    replace hn := hn h1
    cases hgo : l[i].gone with
    | true =>
      have hr : lready now l[i] = false := by simp [lready, hgo]
      have hst : chStep now (b, s) l[i] = (b, s) := by simp [chStep, hr]
      rw [hst] at hn
      simp [RV.cells, RV.one, PV.cells, PV.solid, PV.one, vals?, allVal, mkAgg, setAt, RV.ofCells, elems, PV.killL, List.all_cons, List.all_nil, num, rvPeers, h1, e1, rvPeer, tx, hgo]
      refine hn _ ?_ ?_ ?_ ?_ ?_ ?_ ?_ ?_
      all_goals simp [num, rvPeers, hwi]
    | false =>
      by_cases hre : now < l[i].retry
      · have hr : lready now l[i] = false := by simp [lready, hgo, hre]
        have hst : chStep now (b, s) l[i] = (b, s) := by simp [chStep, hr]
        rw [hst] at hn
        simp [RV.cells, RV.one, PV.cells, PV.solid, PV.one, vals?, allVal, mkAgg, setAt, RV.ofCells, elems, PV.killL, List.all_cons, List.all_nil, num, rvPeers, h1, e1, rvPeer, tx, hgo, hre]
        refine hn _ ?_ ?_ ?_ ?_ ?_ ?_ ?_ ?_
        all_goals simp [num, rvPeers, hwi]
      · have hr : lready now l[i] = true := by simp [lready, hgo]; omega
        by_cases hs : s = 0
        · have hst : chStep now (b, s) l[i] = (l[i].target.prio, l[i].target.weight) := by simp [chStep, hr, hs]
          have hci : chI (b, s) = 10 := by simp [chI, hs]
          have hcn : chI (l[i].target.prio, l[i].target.weight) = l[i].target.prio := by unfold chI; rw [if_neg]; show ¬ l[i].target.weight = 0; omega
          have hlt : l[i].target.prio < 10 := by omega
          rw [hst, hcn] at hn
          rw [hci]
          subst hs
          simp [RV.cells, RV.one, PV.cells, PV.solid, PV.one, vals?, allVal, mkAgg, setAt, RV.ofCells, elems, PV.killL, List.all_cons, List.all_nil, num, rvPeers, h1, e1, rvPeer, tx, hgo, hre, hlt]
          refine hn _ ?_ ?_ ?_ ?_ ?_ ?_ ?_ ?_
          all_goals simp [num, rvPeers, hwi, h0w]
        · have hs' : 0 < s := by omega
          have hci : chI (b, s) = b := by simp [chI, hs]
          rw [hci]
          by_cases hgt : b < l[i].target.prio
          · have hst : chStep now (b, s) l[i] = (b, s) := by simp [chStep, hr, hs', hgt]
            have hng : ¬ l[i].target.prio < b := by omega
            have hne : ¬ l[i].target.prio = b := by omega
            rw [hst, hci] at hn
            simp [RV.cells, RV.one, PV.cells, PV.solid, PV.one, vals?, allVal, mkAgg, setAt, RV.ofCells, elems, PV.killL, List.all_cons, List.all_nil, num, rvPeers, h1, e1, rvPeer, tx, hgo, hre, hng, hne]
            refine hn _ ?_ ?_ ?_ ?_ ?_ ?_ ?_ ?_
            all_goals simp [num, rvPeers, hwi]
          · by_cases hlt : l[i].target.prio < b
            · have hst : chStep now (b, s) l[i] = (l[i].target.prio, l[i].target.weight) := by simp [chStep, hr, hgt, hlt]
              have hcn : chI (l[i].target.prio, l[i].target.weight) = l[i].target.prio := by unfold chI; rw [if_neg]; show ¬ l[i].target.weight = 0; omega
              rw [hst, hcn] at hn
              simp [RV.cells, RV.one, PV.cells, PV.solid, PV.one, vals?, allVal, mkAgg, setAt, RV.ofCells, elems, PV.killL, List.all_cons, List.all_nil, num, rvPeers, h1, e1, rvPeer, tx, hgo, hre, hlt]
              refine hn _ ?_ ?_ ?_ ?_ ?_ ?_ ?_ ?_
              all_goals simp [num, rvPeers, hwi, h0w]
            · have hst : chStep now (b, s) l[i] = (b, s + l[i].target.weight) := by simp [chStep, hr, hgt, hlt, hs]
              have hcn : chI (b, s + l[i].target.weight) = b := by unfold chI; rw [if_neg]; show ¬ s + l[i].target.weight = 0; omega
              have heq : l[i].target.prio = b := by omega
              rw [hst, hcn] at hn
              simp [RV.cells, RV.one, PV.cells, PV.solid, PV.one, vals?, allVal, mkAgg, setAt, RV.ofCells, elems, PV.killL, List.all_cons, List.all_nil, num, rvPeers, h1, e1, rvPeer, tx, hgo, hre, hlt, heq]
              refine hn _ ?_ ?_ ?_ ?_ ?_ ?_ ?_ ?_
              all_goals simp [num, rvPeers, hwi, hsw]
  · have e : i = l.length := by omega
    simp
    refine hx e _ ?_ ?_ ?_ ?_ ?_ <;> simp [num, rvPeers]

theorem ichoose_l54 {K : Kx (PExit → St → Prop)} (l : List LPeer) (now b left : Int) (hl : l.length ≤ 4) (hg : chGood l) (i : Nat) (hi : i < l.length) (h0 : 0 ≤ left) (h00 : left ≤ 1000000)
    (hr : chMatch now b l[i] = true → left < l[i].target.weight → ∀ st' : St, st'.env 6 = .val (num i) → K.k .ret st')
    (hn : ∀ left', left' = (if chMatch now b l[i] then left - l[i].target.weight else left) → (chMatch now b l[i] = true → ¬ left < l[i].target.weight) → ∀ st' : St, st'.env 1 = .val (num now) → st'.env 2 = .val (num left') → st'.env 7 = .val (num b) → st'.env 51 = .val (rvPeers l) → st'.env 52 = .val (num l.length) → st'.env 53 = .val (num ((i + 1 : Nat) : Int)) → K.k .normal st') :
    EC Tryz.prog ir45_l54 ⟨envOf [(1, .val (num now)), (2, .val (num left)), (7, .val (num b)), (51, .val (rvPeers l)), (52, .val (num l.length)), (53, .val (num i))], memOf []⟩ (K := K) := by
  unfold ir45_l54
  have e1 := peers_at hi
  rw [List.getD_eq_getElem?_getD] at e1
  have hwi : IntKind.i64.wrap ((i : Int) + 1) = (i : Int) + 1 := wrap_i64 (by omega) (by omega)
  have hgi := hg _ (List.getElem_mem hi)
  have hsw : IntKind.i64.wrap (left - l[i].target.weight) = left - l[i].target.weight := wrap_i64 (by omega) (by omega)
  cases hgo : l[i].gone with
  | true =>
    have hm : chMatch now b l[i] = false := by simp [chMatch, lready, hgo]
    rw [hm] at hn
    simp [RV.cells, RV.one, PV.cells, PV.solid, PV.one, vals?, allVal, mkAgg, setAt, RV.ofCells, elems, PV.killL, List.all_cons, List.all_nil, num, rvPeers, hi, e1, rvPeer, tx, hgo]
    refine hn left (by simp) (fun h => by cases h) _ ?_ ?_ ?_ ?_ ?_ ?_
    all_goals simp [num, rvPeers, hwi]
  | false =>
    by_cases hre : now < l[i].retry
    · have hm : chMatch now b l[i] = false := by unfold chMatch lready; rw [decide_eq_false (show ¬ l[i].retry ≤ now by omega)]; simp
      rw [hm] at hn
      simp [RV.cells, RV.one, PV.cells, PV.solid, PV.one, vals?, allVal, mkAgg, setAt, RV.ofCells, elems, PV.killL, List.all_cons, List.all_nil, num, rvPeers, hi, e1, rvPeer, tx, hgo, hre]
      refine hn left (by simp) (fun h => by cases h) _ ?_ ?_ ?_ ?_ ?_ ?_
      all_goals simp [num, rvPeers, hwi]
    · have hrd : lready now l[i] = true := by simp [lready, hgo]; omega
      by_cases hp : l[i].target.prio = b
      · have hm : chMatch now b l[i] = true := by simp [chMatch, hrd, hp]
        rw [hm] at hn hr
        by_cases hlt : left < l[i].target.weight
        · simp [RV.cells, RV.one, PV.cells, PV.solid, PV.one, vals?, allVal, mkAgg, setAt, RV.ofCells, elems, PV.killL, List.all_cons, List.all_nil, num, rvPeers, hi, e1, rvPeer, tx, hgo, hre, hp, hlt]
          refine hr rfl hlt _ ?_
          simp [num]
        · simp [RV.cells, RV.one, PV.cells, PV.solid, PV.one, vals?, allVal, mkAgg, setAt, RV.ofCells, elems, PV.killL, List.all_cons, List.all_nil, num, rvPeers, hi, e1, rvPeer, tx, hgo, hre, hp, hlt]
          refine hn (left - l[i].target.weight) (by simp) (fun _ => hlt) _ ?_ ?_ ?_ ?_ ?_ ?_
          all_goals simp [num, rvPeers, hwi, hsw]
      · have hm : chMatch now b l[i] = false := by simp [chMatch, hrd, hp]
        rw [hm] at hn
        simp [RV.cells, RV.one, PV.cells, PV.solid, PV.one, vals?, allVal, mkAgg, setAt, RV.ofCells, elems, PV.killL, List.all_cons, List.all_nil, num, rvPeers, hi, e1, rvPeer, tx, hgo, hre, hp]
        refine hn left (by simp) (fun h => by cases h) _ ?_ ?_ ?_ ?_ ?_ ?_
        all_goals simp [num, rvPeers, hwi]

theorem i_choose (l : List LPeer) (now draw : Int) (hl : l.length ≤ 4) (hg : chGood l) (hd : 0 ≤ draw ∧ draw ≤ 1000000) : CallOK Tryz.prog 45 [.val (rvPeers l), .val (num now), .val (num draw)] (.ret (.val (num (lchoose l now draw))) []) [] := by
  refine call_val mixed ok45 rfl (fun _ => rfl) ?_
  unfold ir45
  rw [evalC_intro]
  have hall := chInv_all (now := now) hg
  unfold lchoose
  simp [initSt, avPVs, avPV, avBoxesL, avBoxes, RV.cells, RV.one, PV.cells, PV.solid, PV.one, vals?, allVal, mkAgg, setAt, RV.ofCells, elems, PV.killL, List.all_cons, List.all_nil, rvPeers, num]
  refine loop_EC (X := Nat) (fun i => ⟨envOf [(0, .val (rvPeers l)), (1, .val (num now)), (2, .val (num draw)), (7, .val (num (chI (chAcc now (l.take i))))), (8, .val (num (chAcc now (l.take i)).2)), (13, .val (rvPeers l)), (14, .val (num l.length)), (15, .val (num i))], memOf []⟩) (fun i => i ≤ l.length) (fun i => l.length - i) 0 (Le.mk _ _ ?_ ?_) (Nat.zero_le _) ?_
  · simp [upd, rvPeers, num, chAcc, chI, PV.kill]
  · simp
  · intro i hi
    refine ichoose_l16 l now draw (chAcc now (l.take i)).1 (chAcc now (l.take i)).2 hl hg i hi (chInv_take hg i hi) (fun hil st' q0 q1 q2 q7 q8 => ?_) (fun h1 st' q0 q1 q2 q7 q8 q13 q14 q15 => ?_)
    · subst hil
      rw [List.take_length] at q7 q8
      generalize chAcc now l = a at *
      obtain ⟨b, s⟩ := a
      by_cases hs : s = 0
      · subst hs
        simp [RV.cells, RV.one, PV.cells, PV.solid, PV.one, vals?, allVal, mkAgg, setAt, RV.ofCells, elems, PV.killL, List.all_cons, List.all_nil, q0, q1, q2, q7, q8, num]
      · have hpos : 0 < s := by have := hall.lo; simp only at this; omega
        have hr := tmod_range hd.1 hpos
        have hle : draw.tmod s ≤ 1000000 := by
          have := hall.hi
          simp only at this
          omega
        have hci : chI (b, s) = b := by simp [chI, hs]
        rw [hci] at q7
        simp [RV.cells, RV.one, PV.cells, PV.solid, PV.one, vals?, allVal, mkAgg, setAt, RV.ofCells, elems, PV.killL, List.all_cons, List.all_nil, q0, q1, q2, q7, q8, num, hs, rvPeers]
        refine loop_EC (X := Nat × Int) (fun x => ⟨envOf [(1, .val (num now)), (2, .val (num x.2)), (7, .val (num b)), (51, .val (rvPeers l)), (52, .val (num l.length)), (53, .val (num x.1))], memOf []⟩) (fun x => x.1 ≤ l.length ∧ 0 ≤ x.2 ∧ x.2 ≤ 1000000 ∧ chPick now b (l.drop x.1) x.2 x.1 = chPick now b l (draw.tmod s) 0) (fun x => l.length - x.1) (0, draw.tmod s) (Le.mk _ _ ?_ ?_) ⟨Nat.zero_le _, hr.1, hle, rfl⟩ ?_
        · simp [upd, rvPeers, num, PV.kill, q0, q1, q7]
        · simp
        · rintro ⟨j, left⟩ ⟨hj, hl0, hl1, hp⟩
          simp only at hj hl0 hl1 hp
          rcases Nat.lt_or_ge j l.length with hj1 | hj1
          · rw [chPick_drop now b hj1] at hp
            refine ichoose_l54 l now b left hl hg j hj1 hl0 hl1 (fun hm hlt st' q6 => ?_) (fun left' hl' hnl st' r1 r2 r7 r51 r52 r53 => ?_)
            · rw [if_pos hm, if_pos hlt] at hp
              simp [q6, ← hp, num, hs]
            · simp
              have hgj := hg _ (List.getElem_mem hj1)
              refine LoopNext.mk (j + 1, left') ⟨hj1, ?_, ?_, ?_⟩ (by show l.length - (j + 1) < l.length - j; omega) (Le.mk _ _ ?_ ?_)
              · show 0 ≤ left'
                cases hm : chMatch now b l[j] with
                | true => have := hnl hm; rw [hm] at hl'; simp at hl'; omega
                | false => rw [hm] at hl'; simp at hl'; omega
              · show left' ≤ 1000000
                cases hm : chMatch now b l[j] with
                | true => have := hnl hm; rw [hm] at hl'; simp at hl'; omega
                | false => rw [hm] at hl'; simp at hl'; omega
              · show chPick now b (l.drop (j + 1)) left' ((j + 1 : Nat) : Int) = _
                rw [← hp]
                cases hm : chMatch now b l[j] with
                | true => have := hnl hm; rw [hm] at hl'; simp at hl'; simp [hl', this]
                | false => rw [hm] at hl'; simp at hl'; simp [hl']
              · simp [r1, r2, r7, r51, r52, r53]
              · simp
          · have e : j = l.length := by omega
            subst e
            rw [List.drop_length] at hp
            unfold ir45_l54
            simp [RV.cells, RV.one, PV.cells, PV.solid, PV.one, vals?, allVal, mkAgg, setAt, RV.ofCells, elems, PV.killL, List.all_cons, List.all_nil, num, rvPeers, ← hp, chPick]
    · simp
      refine LoopNext.mk (i + 1) (by omega) (by omega) (Le.mk _ _ ?_ ?_)
      · have hsn : chAcc now (l.take (i + 1)) = chStep now (chAcc now (l.take i)) l[i] := by
          rw [List.take_add_one, List.getElem?_eq_getElem h1, Option.toList_some, chAcc_snoc]
        simp [q0, q1, q2, q7, q8, q13, q14, q15, hsn]
      · simp

theorem i_Choose (l : List LPeer) (now draw : Int) (hl : l.length < 1099511627776) (hs : ∀ p ∈ l, p.target.url.length < 1048577) : CallOK Tryz.prog 19 [.val (rvPeers l), .val (num now), .val (num draw)] (.ret (wakeRes (lChoose l now draw)) []) [] := by
  refine call_val mixed ok19 rfl (fun _ => rfl) ?_
  unfold ir19
  rw [evalC_intro]
  have hpc := i_peersCode l hl hs
  unfold lChoose
  have hisn := i_isNow now
  have hisd := i_isNow draw
  generalize hb : decide (0 ≤ now ∧ now ≤ 1000000) = b at hisn
  generalize hd : decide (0 ≤ draw ∧ draw ≤ 1000000) = d at hisd
  simp [initSt, avPVs, avPV, avBoxesL, avBoxes, RV.cells, RV.one, PV.cells, PV.solid, PV.one, vals?, allVal, mkAgg, setAt, RV.ofCells, elems, PV.killL, List.all_cons, List.all_nil, rvPeers, num]
  refine callS_val rfl rfl (.inl rfl) hpc ?_
  simp [RV.cells, RV.one, PV.cells, PV.solid, PV.one, vals?, allVal, mkAgg, setAt, RV.ofCells, elems, PV.killL, List.all_cons, List.all_nil, num]
  refine callS_val rfl rfl (.inl rfl) hisn ?_
  cases b with
  | false =>
    have hnn : ¬ ((0 ≤ now ∧ now ≤ 1000000) ∧ (0 ≤ draw ∧ draw ≤ 1000000)) := fun h => by rw [decide_eq_true h.1] at hb; cases hb
    simp [RV.cells, RV.one, PV.cells, PV.solid, PV.one, vals?, allVal, mkAgg, setAt, RV.ofCells, elems, PV.killL, List.all_cons, List.all_nil, num]
    refine callS_val rfl rfl (.inl rfl) (i_unless false 4) ?_
    simp [RV.cells, RV.one, PV.cells, PV.solid, PV.one, vals?, allVal, mkAgg, setAt, RV.ofCells, elems, PV.killL, List.all_cons, List.all_nil, num, elems]
    refine callS_val rfl rfl (.inr rfl) (i_first [if 4096 < l.length then 2 else if lpeersOK l then 0 else 1, 4] (by simp)) ?_
    by_cases h : 4096 < l.length
    · rw [if_pos h, if_pos h, lfirst_ne (by decide)]
      simp [num, wakeRes]
    · rw [if_neg h, if_neg h]
      cases hok : lpeersOK l with
      | false =>
        rw [if_neg (by simp), if_neg (by simp), lfirst_ne (by decide)]
        simp [num, wakeRes]
      | true =>
        rw [if_pos rfl, if_pos rfl, lfirst_zero, if_neg hnn, lfirst_ne (by decide)]
        simp [num, wakeRes]
  | true =>
    simp [RV.cells, RV.one, PV.cells, PV.solid, PV.one, vals?, allVal, mkAgg, setAt, RV.ofCells, elems, PV.killL, List.all_cons, List.all_nil, num]
    refine callS_val rfl rfl (.inl rfl) hisd ?_
    simp [RV.cells, RV.one, PV.cells, PV.solid, PV.one, vals?, allVal, mkAgg, setAt, RV.ofCells, elems, PV.killL, List.all_cons, List.all_nil, num]
    refine callS_val rfl rfl (.inl rfl) (i_unless d 4) ?_
    simp [RV.cells, RV.one, PV.cells, PV.solid, PV.one, vals?, allVal, mkAgg, setAt, RV.ofCells, elems, PV.killL, List.all_cons, List.all_nil, num, elems]
    refine callS_val rfl rfl (.inr rfl) (i_first [if 4096 < l.length then 2 else if lpeersOK l then 0 else 1, if d then 0 else 4] (by simp)) ?_
    by_cases h : 4096 < l.length
    · rw [if_pos h, if_pos h, lfirst_ne (by decide)]
      simp [num, wakeRes]
    · rw [if_neg h, if_neg h]
      cases hok : lpeersOK l with
      | false =>
        rw [if_neg (by simp), if_neg (by simp), lfirst_ne (by decide)]
        simp [num, wakeRes]
      | true =>
        rw [if_pos rfl, if_pos rfl, lfirst_zero]
        cases d with
        | false =>
          have hnn : ¬ ((0 ≤ now ∧ now ≤ 1000000) ∧ (0 ≤ draw ∧ draw ≤ 1000000)) := fun h => by rw [decide_eq_true h.2] at hd; cases hd
          rw [if_neg hnn, if_neg (by simp), lfirst_ne (by decide)]
          simp [num, wakeRes]
        | true =>
          have hd' := of_decide_eq_true hd
          rw [if_pos ⟨of_decide_eq_true hb, hd'⟩, if_pos rfl, show lfirst [0] = 0 from rfl]
          obtain ⟨g1, g2⟩ := chGood_of hok
          simp [RV.cells, RV.one, PV.cells, PV.solid, PV.one, vals?, allVal, mkAgg, setAt, RV.ofCells, elems, PV.killL, List.all_cons, List.all_nil, num, rvPeers]
          refine callS_val rfl rfl (.inl rfl) (i_choose l now draw g1 g2 hd') ?_
          by_cases hc : lchoose l now draw < 0
          · rw [if_pos hc]
            simp [RV.cells, RV.one, PV.cells, PV.solid, PV.one, vals?, allVal, mkAgg, setAt, RV.ofCells, elems, PV.killL, List.all_cons, List.all_nil, num, wakeRes, hc]
          · rw [if_neg hc]
            simp [RV.cells, RV.one, PV.cells, PV.solid, PV.one, vals?, allVal, mkAgg, setAt, RV.ofCells, elems, PV.killL, List.all_cons, List.all_nil, num, wakeRes, hc]

theorem law_Choose (l : List LPeer) (now draw : Int) (hl : l.length ≤ 9223372036854775807) (hx : ∀ p ∈ l, p.target.url.length ≤ 9223372036854775807) : CallOK Tryz.prog 5 [.val (rvPeers l), .val (num now), .val (num draw)] (.ret (.val (.bool true)) []) [] := by
  refine call_val mixed ok5 rfl (fun _ => rfl) ?_
  unfold ir5
  rw [evalC_intro]
  simp [initSt, avPVs, avPV, avBoxesL, avBoxes, RV.cells, RV.one, PV.cells, PV.solid, PV.one, vals?, allVal, mkAgg, setAt, RV.ofCells, elems, PV.killL, List.all_cons, List.all_nil, rvPeers, num]
  refine callS_val rfl rfl (.inl rfl) (c_szPeerS l 1048576 (by omega) (by omega) hl hx) ?_
  simp [RV.cells, RV.one, PV.cells, PV.solid, PV.one, vals?, allVal, mkAgg, setAt, RV.ofCells, elems, PV.killL, List.all_cons, List.all_nil, num]
  refine iteP_intro (fun h => ?_) (fun h => ?_)
  · simp
  · obtain ⟨hl2, hx2⟩ := lsz_small (by omega) (by omega) h
    have hl3 : l.length < 1099511627776 := by omega
    simp [RV.cells, RV.one, PV.cells, PV.solid, PV.one, vals?, allVal, mkAgg, setAt, RV.ofCells, elems, PV.killL, List.all_cons, List.all_nil, num]
    refine callS_val rfl rfl (.inl rfl) (c_toPeerS l hl3) ?_
    simp [RV.cells, RV.one, PV.cells, PV.solid, PV.one, vals?, allVal, mkAgg, setAt, RV.ofCells, elems, PV.killL, List.all_cons, List.all_nil, num, rvPeers]
    refine callS_two rfl rfl (.inl rfl) (c_specChoose l now draw hl3 (fun p hp => by have := hx2 p hp; omega)) ?_
    generalize hr : lChoose l now draw = r
    obtain ⟨a, c⟩ := r
    simp [RV.cells, RV.one, PV.cells, PV.solid, PV.one, vals?, allVal, mkAgg, setAt, RV.ofCells, elems, PV.killL, List.all_cons, List.all_nil, num, rvPeers]
    refine callS_val rfl rfl (.inl rfl) (c_toPeerS l hl3) ?_
    simp [RV.cells, RV.one, PV.cells, PV.solid, PV.one, vals?, allVal, mkAgg, setAt, RV.ofCells, elems, PV.killL, List.all_cons, List.all_nil, num, rvPeers]
    have hi := i_Choose l now draw hl3 (fun p hp => by have := hx2 p hp; omega)
    rw [hr] at hi
    refine callS_two rfl rfl (.inl rfl) hi ?_
    simp [RV.cells, RV.one, PV.cells, PV.solid, PV.one, vals?, allVal, mkAgg, setAt, RV.ofCells, elems, PV.killL, List.all_cons, List.all_nil, num, rvPeers]
    refine callS_val rfl rfl (.inl rfl) (c_toPeerS l hl3) ?_
    simp [RV.cells, RV.one, PV.cells, PV.solid, PV.one, vals?, allVal, mkAgg, setAt, RV.ofCells, elems, PV.killL, List.all_cons, List.all_nil, num, rvPeers]
    refine callS_val rfl rfl (.inl rfl) (c_eqPeerS l hl3) ?_
    simp [RV.cells, RV.one, PV.cells, PV.solid, PV.one, vals?, allVal, mkAgg, setAt, RV.ofCells, elems, PV.killL, List.all_cons, List.all_nil, num, rvPeers]
end Go.Proofs
end

/- What the program's functions on one peer come to, and the law of PeerWorks. -/
section
set_option maxRecDepth 100000
set_option linter.unusedVariables false
set_option linter.unusedSectionVars false
set_option linter.unusedSimpArgs false
namespace Go.Proofs
open Go.PW Go.KP
variable [GH]

theorem i_peerCode (l : List LPeer) (k : Int) (hl : l.length < 1099511627776) (hs : ∀ p ∈ l, p.target.url.length < 1048577) : CallOK Tryz.prog 54 [.val (rvPeers l), .val (num k)] (.ret (.val (num (lask l k))) []) [] := by
  refine call_val mixed ok54 rfl (fun _ => rfl) ?_
  unfold ir54
  rw [evalC_intro]
  have hw : IntKind.i64.wrap ((l.length : Int) - 1) = (l.length : Int) - 1 := wrap_i64 (by omega) (by omega)
  have hpc := i_peersCode l hl hs
  have hwi := i_within k 0 ((l.length : Int) - 1)
  unfold lask
  generalize hb : decide (0 ≤ k ∧ k ≤ (l.length : Int) - 1) = b at hwi
  simp [initSt, avPVs, avPV, avBoxesL, avBoxes, RV.cells, RV.one, PV.cells, PV.solid, PV.one, vals?, allVal, mkAgg, setAt, RV.ofCells, elems, PV.killL, List.all_cons, List.all_nil, rvPeers, num]
  refine callS_val rfl rfl (.inl rfl) hpc ?_
  simp [RV.cells, RV.one, PV.cells, PV.solid, PV.one, vals?, allVal, mkAgg, setAt, RV.ofCells, elems, PV.killL, List.all_cons, List.all_nil, num, rvPeers, hw]
  refine callS_val rfl rfl (.inl rfl) hwi ?_
  simp [RV.cells, RV.one, PV.cells, PV.solid, PV.one, vals?, allVal, mkAgg, setAt, RV.ofCells, elems, PV.killL, List.all_cons, List.all_nil, num]
  refine callS_val rfl rfl (.inl rfl) (i_unless b 5) ?_
  simp [RV.cells, RV.one, PV.cells, PV.solid, PV.one, vals?, allVal, mkAgg, setAt, RV.ofCells, elems, PV.killL, List.all_cons, List.all_nil, num, elems]
  refine callS_val rfl rfl (.inr rfl) (i_first [if 4096 < l.length then 2 else if lpeersOK l then 0 else 1, if b then 0 else 5] (by simp)) ?_
  by_cases h : 4096 < l.length
  · rw [if_pos h, if_pos h, lfirst_ne (by decide)]
    simp [num]
  · rw [if_neg h, if_neg h]
    cases hok : lpeersOK l with
    | false =>
      rw [if_neg (by simp), if_neg (by simp), lfirst_ne (by decide)]
      simp [num]
    | true =>
      rw [if_pos rfl, if_pos rfl, lfirst_zero]
      cases b with
      | true =>
        rw [if_pos (of_decide_eq_true hb), if_pos rfl, show lfirst [0] = 0 from rfl]
        simp [num]
      | false =>
        rw [if_neg (of_decide_eq_false hb), if_neg (by simp), lfirst_ne (by decide)]
        simp [num]

theorem i_clone (l : List LPeer) (h0 : l ≠ []) (hl : l.length ≤ 4096) : CallOK Tryz.prog 55 [.val (rvPeers l)] (.ret (.own 0) [⟨57, 6, l.map rvPeer⟩]) [] := by
  refine call_mk (mk := fun i => .own i) mixed ok55 rfl (fun _ => rfl) ?_
  unfold ir55
  rw [evalC_intro]
  have h1 : ∀ x ∈ l, ∀ y ∈ (rvPeer x).cells, y.one = true := fun x _ y hy => by
    simp [rvPeer, RV.cells, tx, num] at hy
    rcases hy with rfl | rfl | rfl | rfl | rfl | rfl <;> rfl
  simp [initSt, avPVs, avPV, avBoxesL, avBoxes, RV.cells, RV.one, PV.cells, PV.solid, PV.one, vals?, allVal, mkAgg, setAt, RV.ofCells, elems, PV.killL, List.all_cons, List.all_nil, rvPeers, num, h0]
  exact ⟨fun x hx y hy => h1 x hx y hy, by omega, by omega⟩

theorem i_PW_err (l : List LPeer) (k c : Int) (hc : lask l k = c) (h0 : c ≠ 0) (hl : l.length < 1099511627776) (hs : ∀ p ∈ l, p.target.url.length < 1048577) : CallOK Tryz.prog 25 [.val (rvPeers l), .val (num k)] (.ret (.tup [.val (rvPeers []), .val (num c)]) []) [] := by
  refine call_val mixed ok25 rfl (fun _ => rfl) ?_
  unfold ir25
  rw [evalC_intro]
  have hA := i_peerCode l k hl hs
  rw [hc] at hA
  simp [initSt, avPVs, avPV, avBoxesL, avBoxes, RV.cells, RV.one, PV.cells, PV.solid, PV.one, vals?, allVal, mkAgg, setAt, RV.ofCells, elems, PV.killL, List.all_cons, List.all_nil, rvPeers, num]
  refine callS_val rfl rfl (.inl rfl) hA ?_
  simp [RV.cells, RV.one, PV.cells, PV.solid, PV.one, vals?, allVal, mkAgg, setAt, RV.ofCells, elems, PV.killL, List.all_cons, List.all_nil, rvPeers, num, h0]

theorem i_PW_ok (l : List LPeer) (i : Nat) (hi : i < l.length) (hc : lask l i = 0) (hl : l.length ≤ 4096) (hs : ∀ p ∈ l, p.target.url.length < 1048577) : CallOK Tryz.prog 25 [.val (rvPeers l), .val (num i)] (.ret (.tup [.own 0, .val (num 0)]) [⟨57, 6, (l.set i (pworks l[i])).map rvPeer⟩]) [] := by
  refine call_mk (mk := fun i => .tup [.own i, .val (num 0)]) mixed ok25 rfl (fun _ => rfl) ?_
  unfold ir25
  rw [evalC_intro]
  have hA := i_peerCode l i (by omega) hs
  rw [hc] at hA
  have e2 : l[i]? = some l[i] := List.getElem?_eq_getElem hi
  have hne : l ≠ [] := fun e => by subst e; simp at hi
  simp [initSt, avPVs, avPV, avBoxesL, avBoxes, RV.cells, RV.one, PV.cells, PV.solid, PV.one, vals?, allVal, mkAgg, setAt, RV.ofCells, elems, PV.killL, List.all_cons, List.all_nil, rvPeers, num]
  refine callS_val rfl rfl (.inl rfl) hA ?_
  simp [RV.cells, RV.one, PV.cells, PV.solid, PV.one, vals?, allVal, mkAgg, setAt, RV.ofCells, elems, PV.killL, List.all_cons, List.all_nil, rvPeers, num]
  refine callS_mk rfl rfl rfl (.inl rfl) (i_clone l hne hl) ?_
  simp [RV.cells, RV.one, PV.cells, PV.solid, PV.one, vals?, allVal, mkAgg, setAt, RV.ofCells, elems, PV.killL, List.all_cons, List.all_nil, rvPeers, num, rowBase, PV.shift, PV.kill, MObj.kill, hi, e2, rvPeer, tx]
  rfl

theorem c_markPeerS_nil (k : Nat) : CallOK Tryz.prog 26 [.val (rvPeers []), .val (num k)] (.ret (.val (num k)) []) [] := by
  refine call_val mixed ok26 rfl (fun _ => rfl) ?_
  unfold ir26
  rw [evalC_intro]
  simp [initSt, avPVs, avPV, avBoxesL, avBoxes, RV.cells, RV.one, PV.cells, PV.solid, PV.one, vals?, allVal, mkAgg, setAt, RV.ofCells, elems, PV.killL, List.all_cons, List.all_nil, rvPeers, num]
  refine loop_EC (X := Unit) (fun _ => ⟨envOf [(0, .val (rvPeers [])), (1, .val (num k)), (5, .val (num 0))], memOf []⟩) (fun _ => True) (fun _ => 0) () (Le.mk _ _ ?_ ?_) trivial ?_
  · simp [upd, num, rvPeers, PV.kill]
  · simp
  · intro _ _
    unfold ir26_l6
    simp [RV.cells, RV.one, PV.cells, PV.solid, PV.one, vals?, allVal, mkAgg, setAt, RV.ofCells, elems, PV.killL, List.all_cons, List.all_nil, num, rvPeers]

theorem law_PeerWorks (l : List LPeer) (k : Int) (hl : l.length ≤ 9223372036854775807) (hx : ∀ p ∈ l, p.target.url.length ≤ 9223372036854775807) : CallOK Tryz.prog 7 [.val (rvPeers l), .val (num k)] (.ret (.val (.bool true)) []) [] := by
  refine call_val mixed ok7 rfl (fun _ => rfl) ?_
  unfold ir7
  rw [evalC_intro]
  simp [initSt, avPVs, avPV, avBoxesL, avBoxes, RV.cells, RV.one, PV.cells, PV.solid, PV.one, vals?, allVal, mkAgg, setAt, RV.ofCells, elems, PV.killL, List.all_cons, List.all_nil, rvPeers, num]
  refine callS_val rfl rfl (.inl rfl) (c_szPeerS l 1048576 (by omega) (by omega) hl hx) ?_
  simp [RV.cells, RV.one, PV.cells, PV.solid, PV.one, vals?, allVal, mkAgg, setAt, RV.ofCells, elems, PV.killL, List.all_cons, List.all_nil, num]
  refine iteP_intro (fun h => ?_) (fun h => ?_)
  · simp
  · obtain ⟨hl2, hx2⟩ := lsz_small (by omega) (by omega) h
    have hl3 : l.length < 1099511627776 := by omega
    have hs1 : ∀ p ∈ l, p.target.url.length < 1099511627776 := fun p hp => by have := hx2 p hp; omega
    have hs2 : ∀ p ∈ l, p.target.url.length < 1048577 := fun p hp => by have := hx2 p hp; omega
    have hmk := c_markPeerS l 1 (by omega) (by omega)
    have hne1 : ¬ ((1 + 6 * l.length : Nat) : Int) < 0 := by omega
    generalize ((1 + 6 * l.length : Nat) : Int) = m1 at hmk hne1
    by_cases hc : lask l k = 0
    · obtain ⟨g1, g2, g3, g4⟩ := lask_zero hc
      obtain ⟨i, rfl⟩ : ∃ i : Nat, k = i := ⟨k.toNat, by omega⟩
      have hi : i < l.length := by simpa using g4
      have hip := i_PW_ok l i hi hc g1 hs2
      have hsp := c_specPW_ok l i hi hc g1 hs1
      have hrl : (l.set i (pworks l[i])).length = l.length := by simp
      have hmk2 := c_markPeerS (l.set i (pworks l[i])) 1 (by omega) (by omega)
      have hhd := c_heldPeerS l.length 1 (by omega) (by omega)
      rw [hrl] at hmk2
      have hfl := flat_rvPeers (l.set i (pworks l[i]))
      have hrl3 : (l.set i (pworks l[i])).length < 1099511627776 := by omega
      generalize l.set i (pworks l[i]) = r at *
      generalize hm1 : ((1 + 6 * l.length : Nat) : Int) = m2 at *
      have hne2 : ¬ m2 < 0 := by omega
      simp [RV.cells, RV.one, PV.cells, PV.solid, PV.one, vals?, allVal, mkAgg, setAt, RV.ofCells, elems, PV.killL, List.all_cons, List.all_nil, num]
      refine callS_val rfl rfl (.inl rfl) (c_toPeerS l hl3) ?_
      simp [RV.cells, RV.one, PV.cells, PV.solid, PV.one, vals?, allVal, mkAgg, setAt, RV.ofCells, elems, PV.killL, List.all_cons, List.all_nil, num, rvPeers]
      refine callS_two rfl rfl (.inl rfl) hsp ?_
      simp [RV.cells, RV.one, PV.cells, PV.solid, PV.one, vals?, allVal, mkAgg, setAt, RV.ofCells, elems, PV.killL, List.all_cons, List.all_nil, num, rvPeers]
      refine callS_mk rfl rfl rfl (.inl rfl) (c_toPeerS_own l hl3) ?_
      simp [RV.cells, RV.one, PV.cells, PV.solid, PV.one, vals?, allVal, mkAgg, setAt, RV.ofCells, elems, PV.killL, List.all_cons, List.all_nil, rvPeers, num, rowBase, PV.shift, PV.kill, MObj.kill]
      refine callS_mk rfl rfl rfl (.inr ⟨by simp [PV.flat, PV.flat.go, RV.flat, num], hfl⟩) hip ?_
      simp [RV.cells, RV.one, PV.cells, PV.solid, PV.one, vals?, allVal, mkAgg, setAt, RV.ofCells, elems, PV.killL, List.all_cons, List.all_nil, rvPeers, num, rowBase, PV.shift, PV.shiftL, PV.kill, MObj.kill]
      refine callS_val rfl rfl (.inr rfl) (c_eqPeerS r hrl3) ?_
      simp [RV.cells, RV.one, PV.cells, PV.solid, PV.one, vals?, allVal, mkAgg, setAt, RV.ofCells, elems, PV.killL, List.all_cons, List.all_nil, rvPeers, num, rowBase, PV.shift, PV.kill, MObj.kill]
      refine callS_val rfl rfl (.inl rfl) (c_toPeerS l hl3) ?_
      simp [RV.cells, RV.one, PV.cells, PV.solid, PV.one, vals?, allVal, mkAgg, setAt, RV.ofCells, elems, PV.killL, List.all_cons, List.all_nil, rvPeers, num, rowBase, PV.shift, PV.kill, MObj.kill]
      refine callS_val rfl rfl (.inr rfl) (c_eqPeerS l hl3) ?_
      simp [RV.cells, RV.one, PV.cells, PV.solid, PV.one, vals?, allVal, mkAgg, setAt, RV.ofCells, elems, PV.killL, List.all_cons, List.all_nil, rvPeers, num, rowBase, PV.shift, PV.kill, MObj.kill]
      refine rowC rfl rfl rfl hmk rfl ?_
      simp [RV.cells, RV.one, PV.cells, PV.solid, PV.one, vals?, allVal, mkAgg, setAt, RV.ofCells, elems, PV.killL, List.all_cons, List.all_nil, rvPeers, num, rowBase, PV.shift, PV.kill, MObj.kill, hne1, hne2]
      refine callS_val rfl rfl (.inr rfl) (c_eqPeerS r hrl3) ?_
      simp [RV.cells, RV.one, PV.cells, PV.solid, PV.one, vals?, allVal, mkAgg, setAt, RV.ofCells, elems, PV.killL, List.all_cons, List.all_nil, rvPeers, num, rowBase, PV.shift, PV.kill, MObj.kill, hne1, hne2]
      refine rowC rfl rfl rfl hmk2 rfl ?_
      simp [RV.cells, RV.one, PV.cells, PV.solid, PV.one, vals?, allVal, mkAgg, setAt, RV.ofCells, elems, PV.killL, List.all_cons, List.all_nil, rvPeers, num, rowBase, PV.shift, PV.kill, MObj.kill, hne1, hne2]
      refine callS_val rfl rfl (.inr rfl) hhd ?_
      simp [RV.cells, RV.one, PV.cells, PV.solid, PV.one, vals?, allVal, mkAgg, setAt, RV.ofCells, elems, PV.killL, List.all_cons, List.all_nil, rvPeers, num, rowBase, PV.shift, PV.kill, MObj.kill, hne1, hne2]
      refine callS_val rfl rfl (.inl rfl) (c_toPeerS l hl3) ?_
      simp [RV.cells, RV.one, PV.cells, PV.solid, PV.one, vals?, allVal, mkAgg, setAt, RV.ofCells, elems, PV.killL, List.all_cons, List.all_nil, rvPeers, num, rowBase, PV.shift, PV.kill, MObj.kill]
      refine callS_mk rfl rfl rfl (.inl rfl) hip ?_
      simp [RV.cells, RV.one, PV.cells, PV.solid, PV.one, vals?, allVal, mkAgg, setAt, RV.ofCells, elems, PV.killL, List.all_cons, List.all_nil, rvPeers, num, rowBase, PV.shift, PV.shiftL, PV.kill, MObj.kill]
      refine callS_val rfl rfl (.inr rfl) (c_eqPeerS r hrl3) ?_
      simp [RV.cells, RV.one, PV.cells, PV.solid, PV.one, vals?, allVal, mkAgg, setAt, RV.ofCells, elems, PV.killL, List.all_cons, List.all_nil, rvPeers, num, rowBase, PV.shift, PV.kill, MObj.kill]
      refine callS_val rfl rfl (.inr rfl) hhd ?_
      simp [RV.cells, RV.one, PV.cells, PV.solid, PV.one, vals?, allVal, mkAgg, setAt, RV.ofCells, elems, PV.killL, List.all_cons, List.all_nil, rvPeers, num, rowBase, PV.shift, PV.kill, MObj.kill, hne1, hne2]
    · simp [RV.cells, RV.one, PV.cells, PV.solid, PV.one, vals?, allVal, mkAgg, setAt, RV.ofCells, elems, PV.killL, List.all_cons, List.all_nil, num]
      refine callS_val rfl rfl (.inl rfl) (c_toPeerS l hl3) ?_
      simp [RV.cells, RV.one, PV.cells, PV.solid, PV.one, vals?, allVal, mkAgg, setAt, RV.ofCells, elems, PV.killL, List.all_cons, List.all_nil, num, rvPeers]
      refine callS_two rfl rfl (.inl rfl) (c_specPW_err l k _ rfl hc hl3 hs1) ?_
      have hip := i_PW_err l k _ rfl hc hl3 hs2
      generalize lask l k = c at hip hc
      simp [RV.cells, RV.one, PV.cells, PV.solid, PV.one, vals?, allVal, mkAgg, setAt, RV.ofCells, elems, PV.killL, List.all_cons, List.all_nil, num, rvPeers]
      refine callS_mk rfl rfl rfl (.inl rfl) (c_toPeerS_own l hl3) ?_
      simp [RV.cells, RV.one, PV.cells, PV.solid, PV.one, vals?, allVal, mkAgg, setAt, RV.ofCells, elems, PV.killL, List.all_cons, List.all_nil, rvPeers, num, rowBase, PV.shift, PV.kill, MObj.kill]
      refine callS_two rfl rfl (.inr (by simp [PV.flat, PV.flat.go, RV.flat, rvPeers, num])) hip ?_
      simp [RV.cells, RV.one, PV.cells, PV.solid, PV.one, vals?, allVal, mkAgg, setAt, RV.ofCells, elems, PV.killL, List.all_cons, List.all_nil, rvPeers, num, rowBase, PV.shift, PV.kill, MObj.kill]
      refine callS_val rfl rfl (.inl rfl) (c_eqPeerS [] (by simp)) ?_
      simp [RV.cells, RV.one, PV.cells, PV.solid, PV.one, vals?, allVal, mkAgg, setAt, RV.ofCells, elems, PV.killL, List.all_cons, List.all_nil, rvPeers, num, rowBase, PV.shift, PV.kill, MObj.kill]
      refine callS_val rfl rfl (.inl rfl) (c_toPeerS l hl3) ?_
      simp [RV.cells, RV.one, PV.cells, PV.solid, PV.one, vals?, allVal, mkAgg, setAt, RV.ofCells, elems, PV.killL, List.all_cons, List.all_nil, rvPeers, num, rowBase, PV.shift, PV.kill, MObj.kill]
      refine callS_val rfl rfl (.inr rfl) (c_eqPeerS l hl3) ?_
      simp [RV.cells, RV.one, PV.cells, PV.solid, PV.one, vals?, allVal, mkAgg, setAt, RV.ofCells, elems, PV.killL, List.all_cons, List.all_nil, rvPeers, num, rowBase, PV.shift, PV.kill, MObj.kill]
      refine rowC rfl rfl rfl hmk rfl ?_
      simp [RV.cells, RV.one, PV.cells, PV.solid, PV.one, vals?, allVal, mkAgg, setAt, RV.ofCells, elems, PV.killL, List.all_cons, List.all_nil, rvPeers, num, rowBase, PV.shift, PV.kill, MObj.kill, hne1]
      refine callS_val rfl rfl (.inl rfl) (c_eqPeerS [] (by simp)) ?_
      simp [RV.cells, RV.one, PV.cells, PV.solid, PV.one, vals?, allVal, mkAgg, setAt, RV.ofCells, elems, PV.killL, List.all_cons, List.all_nil, rvPeers, num, rowBase, PV.shift, PV.kill, MObj.kill, hne1]
      refine callS_val rfl rfl (.inl rfl) (c_markPeerS_nil 1) ?_
      simp [RV.cells, RV.one, PV.cells, PV.solid, PV.one, vals?, allVal, mkAgg, setAt, RV.ofCells, elems, PV.killL, List.all_cons, List.all_nil, rvPeers, num, rowBase, PV.shift, PV.kill, MObj.kill, hne1]
      refine callS_val rfl rfl (.inl rfl) (c_heldPeerS 0 1 (by omega) (by omega)) ?_
      simp [RV.cells, RV.one, PV.cells, PV.solid, PV.one, vals?, allVal, mkAgg, setAt, RV.ofCells, elems, PV.killL, List.all_cons, List.all_nil, rvPeers, num, rowBase, PV.shift, PV.kill, MObj.kill, hne1]
      refine callS_val rfl rfl (.inl rfl) (c_toPeerS l hl3) ?_
      simp [RV.cells, RV.one, PV.cells, PV.solid, PV.one, vals?, allVal, mkAgg, setAt, RV.ofCells, elems, PV.killL, List.all_cons, List.all_nil, rvPeers, num, rowBase, PV.shift, PV.kill, MObj.kill]
      refine callS_two rfl rfl (.inl rfl) hip ?_
      simp [RV.cells, RV.one, PV.cells, PV.solid, PV.one, vals?, allVal, mkAgg, setAt, RV.ofCells, elems, PV.killL, List.all_cons, List.all_nil, rvPeers, num, rowBase, PV.shift, PV.kill, MObj.kill]
      refine callS_val rfl rfl (.inl rfl) (c_eqPeerS [] (by simp)) ?_
      simp [RV.cells, RV.one, PV.cells, PV.solid, PV.one, vals?, allVal, mkAgg, setAt, RV.ofCells, elems, PV.killL, List.all_cons, List.all_nil, rvPeers, num, rowBase, PV.shift, PV.kill, MObj.kill]
      refine callS_val rfl rfl (.inl rfl) (c_heldPeerS 0 1 (by omega) (by omega)) ?_
      simp [RV.cells, RV.one, PV.cells, PV.solid, PV.one, vals?, allVal, mkAgg, setAt, RV.ofCells, elems, PV.killL, List.all_cons, List.all_nil, rvPeers, num, rowBase, PV.shift, PV.kill, MObj.kill]
end Go.Proofs
end
