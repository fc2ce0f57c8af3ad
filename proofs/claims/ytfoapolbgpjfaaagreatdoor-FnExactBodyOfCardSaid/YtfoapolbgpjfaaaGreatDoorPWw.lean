/- Calls that hand back a row, and functions that write a row. -/
import Derived.Test.YtfoapolbgpjfaaaGreatDoorPWv
set_option linter.unusedSectionVars false
set_option linter.unusedSimpArgs false
set_option linter.unusedVariables false
namespace Go.PW
open Go.RowKit
variable [GF]
theorem rowC {P:Program} {st:St} {Ke:Kx (PV→St→Prop)} {f id q E sz rs ps as out rs'} (hq:q.plain1 id=true) (ha:a0z st.mem ps=some as) (hb:boxIds ps=[]) (hn:ps.all PV.noOwn=true) (h:a5q P f (q.nm 0) E sz rs as out rs') (hf:out.flat=true)
 (hK:Ke.k (.val out) ⟨st.env,upd id (.row E sz rs') st.mem⟩):RC P st f id q E sz rs ps (Ke:=Ke):=by
 unfold RC b3x
 rw [ha]
 exact ⟨hq,hb,hn,out,rs',h,hf,hK⟩
def RetO (res:List Rs) (mk:Nat→PV) (E sz:Nat) (xs:List RV):PExit→St→Prop
 | .normal,st=>∃ id,J8 res st=some (mk id)∧st.mem id=.row E sz xs
 | .ret,st=>∃ id,J8 res st=some (mk id)∧st.mem id=.row E sz xs
 | _,_=>False
@[simp] theorem RetO_ret {res mk E sz xs} {st:St}:RetO res mk E sz xs .ret st=∃ id,J8 res st=some (mk id)∧st.mem id=.row E sz xs:=by rfl
@[simp] theorem RetO_normal {res mk E sz xs} {st:St}:RetO res mk E sz xs .normal st=∃ id,J8 res st=some (mk id)∧st.mem id=.row E sz xs:=by rfl
theorem RepP.nm {γ:Nat→Value} {L:Nat→Prop} {w:World} {n:Nat} {p:PV} {v:Value} (h:RepP (fun _=>γ n) L w p v):RepP γ L w (p.nm n) v:=by
 generalize hg:(fun _:Nat=>γ n)=γ' at h
 induction h with
 | undef v=>exact .undef v
 | skip=>exact .skip
 | val r v h=>exact .val r v h
 | emp s=>exact .emp s
 | own id v h=>exact .own n v (by rw [h,← hg])
 | ptr id off b h=>exact .ptr n off b (by rw [← hg] at h;exact h)
 | elt id j sz off b m c h=>exact .elt n j sz off b m c (by rw [← hg] at h;exact h)
 | «at» cells b o f hb h0 hc h=>exact .at cells b o f hb h0 hc h
 | agg cs vs hs _ ih=>exact .agg _ vs (by rw [PV.nmL_length];exact hs) (fun i hi=>by rw [PV.nmL_length] at hi;rw [PV.nmL_getD _ _ _ hi];exact ih i hi)
 | tup cs vs hs _ ih=>exact .tup _ vs (by rw [PV.nmL_length];exact hs) (fun i hi=>by rw [PV.nmL_length] at hi;rw [PV.nmL_getD _ _ _ hi];exact ih i hi)
 | fn f cs vs hs _ ih=>exact .fn f _ vs (by rw [PV.nmL_length];exact hs) (fun i hi=>by rw [PV.nmL_length] at hi;rw [PV.nmL_getD _ _ _ hi];exact ih i hi)
def P4 (p:PV) (E sz:Nat) (xs:List RV) (as:List AV):St where
 env:=fun x=>(p.nm 900 :: j4 0 as).getD x .undef
 mem:=fun i=>if i=900 then .row E sz xs else .dead
def RetR (res:List Rs) (out:RV) (E sz:Nat) (xs:List RV):PExit→St→Prop
 | .normal,st=>J8 res st=some (.val out)∧st.mem 900=.row E sz xs
 | .ret,st=>J8 res st=some (.val out)∧st.mem 900=.row E sz xs
 | _,_=>False
@[simp] theorem RetR_ret {res out E sz xs} {st:St}:RetR res out E sz xs .ret st=(J8 res st=some (.val out)∧st.mem 900=.row E sz xs):=by rfl
@[simp] theorem RetR_normal {res out E sz xs} {st:St}:RetR res out E sz xs .normal st=(J8 res st=some (.val out)∧st.mem 900=.row E sz xs):=by rfl
theorem a88 {P:Program} {f:Nat} {c:PC} {res:List Rs} {p:PV} {as:List AV} {out:RV} {E sz:Nat} {xs xs':List RV} (hm:P.follows .mixedOrders=true) (hc:j8 P f c (as.length+1) res=true) (hbx:d7 as=[])
 (h:P9 P c (P4 p E sz xs as) (RetR res out E sz xs')):a5q P f p E sz xs as out xs':=by
 unfold j8 at hc
 split at hc
 · rename_i fn hf
   split at hc
   · rename_i code hb
     simp only [Bool.and_eq_true,beq_iff_eq,decide_eq_true_eq] at hc
     obtain ⟨⟨⟨hres,hn⟩,hna⟩,hc⟩:=hc
     intro L w v v0 us vs hL hgl hgb hrow hsz hcells hone hp0 hargs
     let γ:Nat→Value:=fun i=>if i=900 then v else .nilFunc
     obtain ⟨g1,g2,g3,g4⟩:=a35 (γ:=γ) as vs [] 0 hargs (fun j hj=>by simp at hj)
     let F:Ctx:={ L:=L,w0:=w,pb:=(Value.blk v).toList,n:=fn.ntmps,pv:=some v }
     have hγ9:γ 900=v:=by simp [γ]
     have hLv:∀ b,i8 L γ (P4 p E sz xs as).mem b→L b:=fun b hb=>by
      rcases hb with h | ⟨id,h1,h2⟩
      · exact h
      · by_cases hid:id=900
        · subst hid;rw [hγ9] at h2;exact hrow.ok h2
        · simp [P4,hid,MObj.live] at h1
     have hk:Keeps L w (i8 L γ (P4 p E sz xs as).mem) w:=fun b o u hb hc=>⟨fun h=>hb (hLv b h),hc⟩
     have hI:Inv F γ (P4 p E sz xs as) { tmps:=(v0 :: vs).toArray++Array.replicate (fn.ntmps - (v0 :: vs).toArray.size) undef,defers:=[] } w:=by
      have hvl:vs.length=as.length:=by rw [g1,a05]
      refine ⟨by simp [F,hvl];omega,rfl,fun x=>?_,⟨fun id cs hid=>?_,fun id E' sz' ys hid=>?_,fun id E sz n c hid=>(by simp only [P4] at hid;split at hid<;>cases hid),fun id s clk m hid=>(by simp only [P4] at hid;split at hid<;>cases hid),fun id id' b h1 h2 h3 h4=>?_⟩,⟨rfl,rfl,rfl,Nat.le_refl _,fun _ _ _=>rfl,hL,fun b hb=>hrow.ok (by
       rcases hb with hb | ⟨i,hb⟩
       · simpa [F] using hb
       · cases hb),hn,hgb,fun i b h=>(by cases h),fun i v h=>(by cases h)⟩,hgl.keep hk,fun k b cs hb hbx=>?_,fun v' E' sz' ys hv hm=>?_,fun i v h=>(by cases h)⟩
      · cases x with
        | zero=>
         have h0:((v0 :: vs).toArray++Array.replicate (fn.ntmps - (v0 :: vs).toArray.size) undef).getD 0 undef=v0:=by simp [Array.getD_eq_getD_getElem?,Array.getElem?_append]
         show RepP γ _ w (p.nm 900) _
         rw [h0]
         exact (RepP.nm (by rw [← hγ9] at hp0;exact hp0)).keep hk
        | succ x=>
         by_cases hx:x < (j4 0 as).length
         · have:=(g2 x hx).keep hk
           have hx':x < vs.length:=by omega
           simpa [P4,Array.getD_eq_getD_getElem?,Array.getElem?_append,hx',List.getD_eq_getElem?_getD,List.getElem?_eq_getElem hx'] using this
         · have:(P4 p E sz xs as).env (x+1)=.undef:=by
            simp only [P4,List.getD_eq_getElem?_getD,List.getElem?_cons_succ]
            rw [List.getElem?_eq_none (by omega)];rfl
           rw [this];exact .undef _
      · simp only [P4] at hid;split at hid<;>cases hid
      · by_cases hi9:id=900
        · subst hi9
          simp only [P4,if_true,MObj.row.injEq] at hid
          obtain ⟨rfl,rfl,rfl⟩:=hid
          refine ⟨us,?_,hsz,⟨hcells.1,fun i k hi hk'=>(hcells.2 i k hi hk').mono hk⟩,hone⟩
          rw [hγ9]
          exact hrow.mono (fun b hb _=>.inr (.inl ⟨rfl,rfl,by simp [F,hb]⟩)) (fun _ _=>rfl)
        · simp only [P4,if_neg hi9] at hid;cases hid
      · by_cases e1:id=900
        · by_cases e2:id'=900
          · rw [e1,e2]
          · simp [P4,e2,MObj.live] at h2
        · simp [P4,e1,MObj.live] at h1
      · simp only [P4] at hbx;split at hbx<;>cases hbx
      · have:v=v':=by simpa [F] using hv
        rw [← this];exact hγ9
     refine calls_of_wp hf hb (L3 hm c code hc hI h ?_)
     clear h
     have done:∀ (γe:Nat→Value) (ste:St) (a:Act) (we:World),Inv F γe ste a we→J8 res ste=some (.val out)∧ste.mem 900=.row E sz xs' →
      a.defers=[]∧∃ u,(results fn a.tmps).run P we=.ok u we∧(Outside (Value.blk v).toList w we∧∃ u' us',Ending.returned u=.returned u'∧RepR L we out u'∧we.rowAt L E sz v xs'.length us'∧a3s L we sz xs' us'∧∀ u∈us',u.oneCell'=true):=fun γe ste a we hIe ⟨hr,hm9⟩=>by
      obtain ⟨vr,hrun,hrep⟩:=a5v hIe hres hr
      have hkk:Keeps (i8 L γe ste.mem) we L we:=fun b o v hb hc=>⟨fun h=>hb (.inl h),hc⟩
      obtain ⟨us',k1,k2,k3,k4⟩:=hIe.mem.row _ _ _ _ hm9
      rw [hIe.pinr v _ _ _ rfl hm9] at k1
      exact ⟨hIe.df,vr,hrun,⟨hIe.fr.os,hIe.fr.tape,hIe.fr.output,hIe.fr.size,fun k hk hp=>hIe.fr.block k hk (fun h=>by rcases h with h | ⟨i,h⟩;exact hp h;cases h)⟩,vr,us',rfl,hrep.valI.mono hkk,k1.mono (fun b hb _=>hrow.ok hb) (fun _ _=>rfl),⟨k3.1,fun i k hi hk=>(k3.2 i k hi hk).mono hkk⟩,k4⟩
     intro e γe ste a we hIe hfin
     cases e with
     | normal=>exact done γe ste a we hIe hfin
     | ret=>exact done γe ste a we hIe hfin
     | exit id=>exact hfin.elim
     | pan r=>exact hfin.elim
   · cases hc
 · cases hc
end Go.PW
