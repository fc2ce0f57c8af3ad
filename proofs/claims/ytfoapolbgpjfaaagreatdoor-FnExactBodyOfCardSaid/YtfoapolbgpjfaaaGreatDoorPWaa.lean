/- THE LAW OF A CALL that is handed objects: the callee's side. -/
import Derived.Test.YtfoapolbgpjfaaaGreatDoorPWw
set_option linter.unusedSectionVars false
set_option linter.unusedSimpArgs false
set_option linter.unusedVariables false
namespace Go.PW
variable [GF]
open Go.RowKit
def FinM (res:List Rs) (pin:Nat→Bool) (out:PV) (M':Nat→MObj):PExit→St→Prop
 | .normal,st=>∃ st',Le st st'∧∃ ι:Nat→Nat,J8 res st'=some (out.ren ι)∧(∀ i j,(M' i).live=true→(M' j).live=true→ι i=ι j→i=j)∧(∀ j,(M' j).live=true→st'.mem (ι j)=(M' j).ren ι)∧(∀ j,(M' j).live=true→ι j=j∨okId (ι j)=true)∧(∀ j,pin j=true→ι j=j∧(M' j).live=true)
 | .ret,st=>∃ st',Le st st'∧∃ ι:Nat→Nat,J8 res st'=some (out.ren ι)∧(∀ i j,(M' i).live=true→(M' j).live=true→ι i=ι j→i=j)∧(∀ j,(M' j).live=true→st'.mem (ι j)=(M' j).ren ι)∧(∀ j,(M' j).live=true→ι j=j∨okId (ι j)=true)∧(∀ j,pin j=true→ι j=j∧(M' j).live=true)
 | _,_=>False
theorem b77 {ι:Nat→Nat} {m:MObj}:(m.ren ι).live=m.live:=by cases m<;>rfl
def Named (pin:Nat→Bool) (M':Nat→MObj) (ι:Nat→Nat) (st:St):Prop:=
 (∀ i j,(M' i).live=true→(M' j).live=true→ι i=ι j→i=j)∧(∀ j,(M' j).live=true→st.mem (ι j)=(M' j).ren ι)∧(∀ j,(M' j).live=true→ι j=j∨okId (ι j)=true)∧(∀ j,pin j=true→ι j=j∧(M' j).live=true)
def FinX (res:List Rs) (pin:Nat→Bool) (out:PV) (M':Nat→MObj) (pn:Bool):PExit→St→Prop
 | .normal,st=>pn=false∧∃ st',Le st st'∧∃ ι:Nat→Nat,J8 res st'=some (out.ren ι)∧Named pin M' ι st'
 | .ret,st=>pn=false∧∃ st',Le st st'∧∃ ι:Nat→Nat,J8 res st'=some (out.ren ι)∧Named pin M' ι st'
 | .pan r,st=>pn=true∧(∀ ι,out.ren ι=.val r)∧∃ ι:Nat→Nat,Named pin M' ι st
 | .exit _,_=>False
theorem b7g {P:Program} {f:Nat} {c:PC} {res:List Rs} {ps:List PV} {M M':Nat→MObj} {pin:Nat→Bool} {out:PV} {pn:Bool} (hm:P.follows .mixedOrders=true) (hc:j8 P f c ps.length res=true)
 (hid:∀ i,(M i).live=true→okId i=false) (hpin:∀ i,pin i=true→(900≤i∧i < 1000)∧(M i).live=true)
 (h:P9 P c ⟨fun x=>ps.getD x .undef,M⟩ (FinX res pin out M' pn)):a5r P f ps M pin out M' pn:=by
 unfold j8 at hc
 split at hc
 · rename_i fn hf
   split at hc
   · rename_i code hb
     simp only [Bool.and_eq_true,beq_iff_eq,decide_eq_true_eq] at hc
     obtain ⟨⟨⟨hres,hn⟩,hna⟩,hc⟩:=hc
     intro L w vs γ hL hOwn hgl hgb hvl hargs hmem
     let po:Nat→Option Nat:=fun i=>if (M i).live=true then Value.blk (γ i) else none
     let F:Ctx:={ L:=L,w0:=w,pb:=[],n:=fn.ntmps,po:=po,pn:=fun i=>if (900≤i∧i < 1000)∧(M i).live=true then some (γ i) else none }
     have hpo:∀ i b,po i=some b→(M i).live=true∧Value.blk (γ i)=some b:=fun i b h=>by
      simp only [po] at h;split at h
      · exact ⟨by assumption,h⟩
      · cases h
     have hLv:∀ b,i8 L γ M b→L b:=fun b hb=>by
      rcases hb with h | ⟨i,h1,h2⟩
      · exact h
      · exact hOwn b ⟨i,h1,h2⟩
     have hk:Keeps L w (i8 L γ M) w:=fun b o v hb hc=>⟨fun h=>hb (hLv b h),hc⟩
     have hI:Inv F γ ⟨fun x=>ps.getD x .undef,M⟩ { tmps:=vs.toArray++Array.replicate (fn.ntmps - vs.toArray.size) undef,defers:=[] } w:=by
      refine ⟨by simp [F,hvl];omega,rfl,fun x=>?_,⟨hmem.box,hmem.row,hmem.prow,hmem.map,hmem.inj⟩,
       ⟨rfl,rfl,rfl,Nat.le_refl _,fun _ _ _=>rfl,hL,fun b hb=>?_,hn,hgb,fun i b h=>hid i (hpo i b h).1,fun i v h=>?_⟩,hgl.keep hk,fun k b cs hb hbx=>(by simp [F] at hb),fun v' E' sz' ys hv hm=>(by simp [F] at hv),fun i v h hl=>?_⟩
      · by_cases hx:x < ps.length
        · have:=(hargs x hx).keep hk
          have hx':x < vs.length:=by omega
          simpa [Array.getD_eq_getD_getElem?,Array.getElem?_append,hx',List.getD_eq_getElem?_getD,List.getElem?_eq_getElem hx'] using this
        · have:ps.getD x .undef=PV.undef:=by rw [List.getD_eq_getElem?_getD,List.getElem?_eq_none (by omega)];rfl
          show RepP γ _ w (ps.getD x .undef) _
          rw [this];exact .undef _
      · rcases hb with hb | ⟨i,hb⟩
        · simp [F] at hb
        · exact hOwn b ⟨i,(hpo i b hb).1,(hpo i b hb).2⟩
      · simp only [F] at h;split at h
        · rename_i hh;exact hh.1
        · cases h
      · simp only [F] at h;split at h
        · exact Option.some.inj h
        · cases h
     refine calls_of_wp hf hb (L3 hm c code hc hI h ?_)
     clear h
     have core:∀ (γe:Nat→Value) (ste:St) (a:Act) (we:World) (ι:Nat→Nat) (vr:Value),Inv F γe ste a we→RepP γe (i8 F.L γe ste.mem) we (out.ren ι) vr→Named pin M' ι ste →
      OutsideP (b9n γ M) w we∧∃ v γ',b07 pn vr=b07 pn v∧(∀ i,pin i=true→γ' i=γ i)∧RepP γ' (i8 L γ' M') we out v∧MemInv (hand L w γ M) γ' M' we:=fun γe ste a we ι vr hIe hrep ⟨hinj,hmm,hids,hpn⟩=>by
      have hlv:∀ j,(M' j).live=true→(ste.mem (ι j)).live=true:=fun j hj=>by rw [hmm j hj,b77];exact hj
      have hsub:∀ b,i8 L (fun i=>γe (ι i)) M' b→i8 L γe ste.mem b:=fun b hb=>by
       rcases hb with h | ⟨j,h1,h2⟩
       · exact .inl h
       · exact .inr ⟨ι j,hlv j h1,h2⟩
      have hkk:Keeps (i8 L γe ste.mem) we (i8 L (fun i=>γe (ι i)) M') we:=fun b o v hb hc=>⟨fun h=>hb (hsub b h),hc⟩
      have hwr:∀ j b,(M' j).live=true→(F.B≤b∨F.wr (ι j) b)→((hand L w γ M).B≤b∨(hand L w γ M).wr j b):=fun j b hj h=>by
       rcases h with h | h | h
       · exact .inl h
       · simp [F] at h
       · rcases hids j hj with e | e
         · rw [e] at h;exact .inr (.inr h)
         · have:=hid _ (hpo _ _ h).1;rw [e] at this;cases this
      have hrk:∀ j b,(M' j).live=true→F.rok (ι j) b→(hand L w γ M).rok j b:=fun j b hj h=>by
       rcases h with h | ⟨_,h,_⟩ | h
       · exact .inl h
       · simp [F] at h
       · rcases hids j hj with e | e
         · rw [e] at h;exact .inr (.inr h)
         · have:=hid _ (hpo _ _ h).1;rw [e] at this;cases this
      refine ⟨⟨hIe.fr.os,hIe.fr.tape,hIe.fr.output,hIe.fr.size,fun k hk hp=>hIe.fr.block k hk (fun h=>?_)⟩,vr,fun i=>γe (ι i),rfl,fun i hi=>?_,(RepP.ren out hrep).keep hkk,⟨fun id cs hb=>?_,fun id E sz xs hb=>?_,fun id E sz n c hb=>?_,fun id s clk m hb=>?_,fun id id' b h1 h2 h3 h4=>?_⟩⟩
      · rcases h with h | ⟨i,h⟩
        · simp [F] at h
        · exact hp ⟨i,(hpo i k h).1,(hpo i k h).2⟩
      · obtain ⟨e,hl⟩:=hpn i hi
        show γe (ι i)=γ i
        rw [e]
        refine hIe.pinn i (γ i) ?_ (by have:=hlv i hl;rw [e] at this;exact this)
        simp only [F];rw [if_pos ⟨(hpin i hi).1,(hpin i hi).2⟩]
      · have hl:(M' id).live=true:=by rw [hb];rfl
        have e:=hmm id hl
        rw [hb] at e
        obtain ⟨b,arr,T,k1,k2,k3,k4,k5⟩:=hIe.mem.box _ _ e
        refine ⟨b,arr,T,k1,k2,by rw [k3,PV.renL_length],hwr id b hl k4,fun j hj=>?_⟩
        have:=k5 j (by rw [PV.renL_length];exact hj)
        rw [PV.renL_getD _ _ _ hj] at this
        exact ⟨(RepP.ren _ this.1).keep hkk,this.2⟩
      · have hl:(M' id).live=true:=by rw [hb];rfl
        have e:=hmm id hl
        rw [hb] at e
        obtain ⟨us,k1,k2,k3,k4⟩:=hIe.mem.row _ _ _ _ e
        exact ⟨us,k1.mono (fun b _ hb=>hrk id b hl hb) (fun _ _=>rfl),k2,⟨k3.1,fun i k hi hk'=>(k3.2 i k hi hk').mono hkk⟩,k4⟩
      · have hl:(M' id).live=true:=by rw [hb];rfl
        have e:=hmm id hl
        rw [hb] at e
        obtain ⟨us,k1,k2,k3⟩:=hIe.mem.prow _ _ _ _ _ e
        exact ⟨us,k1.mono (fun b _ hb=>hrk id b hl hb) (fun _ _=>rfl),k2,fun j k hj hk'=>⟨(RepP.ren _ (k3 j k hj hk').1).keep hkk,(k3 j k hj hk').2⟩⟩
      · have hl:(M' id).live=true:=by rw [hb];rfl
        have e:=hmm id hl
        rw [hb] at e
        obtain ⟨b,es,k1,k2,k3,k4⟩:=hIe.mem.map _ _ _ _ e
        refine ⟨b,es,k1,k2,hwr id b hl k3,⟨k4.key,k4.one,fun x hx k hkx=>?_,fun k hkx=>?_,k4.lt,k4.born⟩⟩
        · obtain ⟨p,p1,p2,p3⟩:=k4.val x hx k hkx
          cases hmk:m k with
          | none=>rw [hmk] at p1;cases p1
          | some q=>
           rw [hmk] at p1
           simp only [Option.map_some,Option.some.injEq,Prod.mk.injEq] at p1
           obtain ⟨rfl,h2⟩:=p1
           exact ⟨q.1,by rw [← h2],(RepP.ren _ p2).keep hkk,p3⟩
        · have:=k4.out k hkx
          cases hmk:m k with
          | none=>rfl
          | some q=>rw [hmk] at this;cases this
      · exact hinj id id' h1 h2 (hIe.mem.inj _ _ b (hlv id h1) (hlv id' h2) h3 h4)
     have done:∀ (γ0:Nat→Value) (st0:St) (a:Act) (we:World),Inv F γ0 st0 a we→(pn=false∧∃ st',Le st0 st'∧∃ ι:Nat→Nat,J8 res st'=some (out.ren ι)∧Named pin M' ι st') →
      a.defers=[]∧∃ u,(results fn a.tmps).run P we=.ok u we∧(OutsideP (b9n γ M) w we∧∃ v γ',Ending.returned u=b07 pn v∧(∀ i,pin i=true→γ' i=γ i)∧RepP γ' (i8 L γ' M') we out v∧MemInv (hand L w γ M) γ' M' we):=fun γ0 st0 a we hI0 ⟨hp,ste,hle,ι,hr,hnm⟩=>by
      subst hp
      obtain ⟨γe,hIe⟩:=hle F γ0 a we hI0
      obtain ⟨vr,hrun,hrep⟩:=a5v hIe hres hr
      exact ⟨hIe.df,vr,hrun,core γe ste a we ι vr hIe hrep hnm⟩
     intro e γe ste a we hIe hfin
     cases e with
     | normal=>exact done γe ste a we hIe hfin
     | ret=>exact done γe ste a we hIe hfin
     | exit id=>exact hfin.elim
     | pan r=>
      intro v hv
      obtain ⟨hp,hr,ι,hnm⟩:=hfin
      subst hp
      exact ⟨hIe.df,core γe ste a we ι v hIe (by rw [hr];exact .val _ _ hv) hnm⟩
   · cases hc
 · cases hc
theorem b9d {P:Program} {f:Nat} {c:PC} {res:List Rs} {ps:List PV} {M M':Nat→MObj} {pin:Nat→Bool} {out:PV} (hm:P.follows .mixedOrders=true) (hc:j8 P f c ps.length res=true)
 (hid:∀ i,(M i).live=true→okId i=false) (hpin:∀ i,pin i=true→(900≤i∧i < 1000)∧(M i).live=true)
 (h:P9 P c ⟨fun x=>ps.getD x .undef,M⟩ (FinM res pin out M')):a5r P f ps M pin out M':=
 b7g hm hc hid hpin (K8 (fun e s hh=>by
  cases e with
  | normal=>exact ⟨rfl,hh⟩
  | ret=>exact ⟨rfl,hh⟩
  | exit id=>exact hh
  | pan r=>exact hh.elim) h)
end Go.PW
