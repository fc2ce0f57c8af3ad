/- THE LAW OF A CALL, and other words for the same state. -/
import Derived.Test.YtfoapolbgpjfaaaGreatDoorPWs
set_option linter.unusedSectionVars false
set_option linter.unusedSimpArgs false
set_option linter.unusedVariables false
namespace Go.PW
variable [GF]
open Go.RowKit
def j8 (P:Program) (f:Nat) (c:PC) (nargs:Nat) (res:List Rs):Bool:=match P.funcs[f]? with
 | some fn=>(match fn.body with
  | some code=>Z3 P fn.results.toList res && decide (fn.ntmps≤900) && decide (nargs≤fn.ntmps) && a0v P fn.ntmps code c
  | none=>false)
 | none=>false
def FinL (res:List Rs) (nb:Nat) (out:Out) (bs:List (List RV)):PExit→St→Prop
 | .pan r,st=>b5g res nb out bs (.pan r) st
 | e,st=>∃ st',Le st st'∧b5g res nb out bs e st'
theorem a05:∀ (as:List AV) (k:Nat),(j4 k as).length=as.length
 | [],k=>rfl
 | a :: as,k=>by simp [j4,a05 as]
theorem b7e {as:List AV} {n:Nat} {L:Nat→Prop} {w:World} {vs:List Value} {ms:List Nat} (hL:∀ b,L b→b < w.heap.size) (hgl:Globs L w) (hgb:a9l L w) (hargs:ArgsRep L w as vs ms) (hnd:ms.Nodup) (hn:n≤900) (hna:as.length≤n) :
 ms.length=(d7 as).length∧vs.length=as.length∧∃ γ,Inv { L:=L,w0:=w,pb:=ms,n:=n } γ (f7 as) { tmps:=vs.toArray++Array.replicate (n - vs.toArray.size) undef,defers:=[] } w:=by
 let γ:Nat→Value:=fun i=>if 900≤i∧i - 900 < ms.length then .pointer (some ⟨ms.getD (i - 900) 0,0,none⟩) else .nilFunc
 have hγ:∀ j,j < ms.length→γ (900+0+j)=.pointer (some ⟨ms.getD j 0,0,none⟩):=fun j hj=>by
  have:900+0+j - 900=j:=by omega
  simp only [γ,this]
  rw [if_pos ⟨by omega,hj⟩]
 obtain ⟨g1,g2,g3,g4⟩:=a35 (γ:=γ) as vs ms 0 hargs hγ
 let F:Ctx:={ L:=L,w0:=w,pb:=ms,n:=n }
 have hmemL:∀ b∈ms,L b:=fun b hb=>by
  obtain ⟨j,hj,rfl⟩:=K4 hb
  exact (g4 j hj).1
 have hmem:∀ i cs,(f7 as).mem i=.box cs→∃ j,i=900+j∧j < ms.length∧cs=((d7 as).getD j []).map .val:=fun i cs hi=>by
  simp only [f7] at hi
  split at hi
  · rename_i h9
    split at hi
    · rename_i bs' e
      cases hi
      have hlt:i - 900 < (d7 as).length:=(List.getElem?_eq_some_iff.1 e).1
      exact ⟨i - 900,by omega,by omega,by rw [List.getD_eq_getElem?_getD,e];rfl⟩
    · cases hi
  · cases hi
 have hrow:∀ i E sz xs,(f7 as).mem i≠.row E sz xs:=fun i E sz xs hi=>by
  simp only [f7] at hi
  split at hi
  · split at hi<;>cases hi
  · cases hi
 have hlive:∀ i,((f7 as).mem i).live=true→∃ cs,(f7 as).mem i=.box cs:=fun i hi=>by
  simp only [f7] at hi ⊢
  split
  · rename_i h9
    rw [if_pos h9] at hi
    split
    · exact ⟨_,rfl⟩
    · rename_i e;rw [e] at hi;cases hi
  · rename_i h9;rw [if_neg h9] at hi;cases hi
 have hγj:∀ j,j < ms.length→γ (900+j)=.pointer (some ⟨ms.getD j 0,0,none⟩):=fun j hj=>by have:=hγ j hj;simpa using this
 have hLv:∀ b,i8 L γ (f7 as).mem b→L b:=fun b hb=>by
  rcases hb with h | ⟨id,h1,h2⟩
  · exact h
  · obtain ⟨cs,hcs⟩:=hlive id h1
    obtain ⟨j,rfl,hj,_⟩:=hmem id cs hcs
    rw [hγj j hj] at h2
    simp only [Value.blk,Option.some.injEq] at h2
    rw [← h2]
    exact (g4 j hj).1
 have hk:Keeps L w (i8 L γ (f7 as).mem) w:=fun b o v hb hc=>⟨fun h=>hb (hLv b h),hc⟩
 have hI:Inv F γ (f7 as) { tmps:=vs.toArray++Array.replicate (n - vs.toArray.size) undef,defers:=[] } w:=by
  have hvl:vs.length=as.length:=by rw [g1,a05]
  refine ⟨by simp [F,hvl];omega,rfl,fun x=>?_,⟨fun id cs hid=>?_,fun id E sz xs hid=>(hrow id E sz xs hid).elim,fun id E sz n c hid=>(by obtain ⟨cs,h⟩:=hlive id (by rw [hid];rfl);rw [h] at hid;cases hid),fun id s clk m hid=>(by obtain ⟨cs,h⟩:=hlive id (by rw [hid];rfl);rw [h] at hid;cases hid),fun id id' b h1 h2 h3 h4=>?_⟩,⟨rfl,rfl,rfl,Nat.le_refl _,fun _ _ _=>rfl,hL,fun b hb=>(by rcases hb with hb | ⟨i,hb⟩;exact hmemL b hb;cases hb),hn,hgb,fun i b h=>(by cases h),fun i v h=>(by cases h)⟩,hgl.keep hk,fun k b cs hb hbx=>?_,fun _ _ _ _ h=>(by cases h),fun i v h=>(by cases h)⟩
  · by_cases hx:x < (j4 0 as).length
    · have:=(g2 x hx).keep hk
      have hx':x < vs.length:=by omega
      simpa [f7,Array.getD_eq_getD_getElem?,Array.getElem?_append,hx',List.getD_eq_getElem?_getD,List.getElem?_eq_getElem hx'] using this
    · have:(f7 as).env x=.undef:=by
       simp only [f7,List.getD_eq_getElem?_getD]
       rw [List.getElem?_eq_none (by omega)];rfl
      rw [this];exact .undef _
  · obtain ⟨j,rfl,hj,rfl⟩:=hmem id cs hid
    obtain ⟨_,arr,T,k1,k2,k3⟩:=g4 j hj
    refine ⟨_,arr,T,hγj j hj,k1,by simpa using k2,.inr (.inl ?_),fun i hi=>?_⟩
    · simp [F,List.getD_eq_getElem?_getD,List.getElem?_eq_getElem hj]
    · have hi':i < ((d7 as).getD j []).length:=by simpa using hi
      have h1:=k3 i hi'
      refine ⟨?_,h1.2⟩
      have e:(((d7 as).getD j []).map PV.val).getD i .undef=.val (((d7 as).getD j []).getD i .nilptr):=by
       generalize (d7 as).getD j []=l at *
       simp [List.getD_eq_getElem?_getD,List.getElem?_eq_getElem hi']
      rw [e]
      exact .val _ _ (h1.1.mono hk)
  · obtain ⟨cs,e1⟩:=hlive id h1
    obtain ⟨cs',e2⟩:=hlive id' h2
    obtain ⟨j,rfl,hj,_⟩:=hmem id cs e1
    obtain ⟨j',rfl,hj',_⟩:=hmem id' cs' e2
    rw [hγj j hj] at h3
    rw [hγj j' hj'] at h4
    simp only [Value.blk,Option.some.injEq] at h3 h4
    have:j=j':=by
     have e:ms[j]=ms[j']:=by
      simp [List.getD_eq_getElem?_getD,List.getElem?_eq_getElem hj] at h3
      simp [List.getD_eq_getElem?_getD,List.getElem?_eq_getElem hj'] at h4
      rw [h3,h4]
     exact (List.getElem_inj hnd).1 e
    rw [this]
  · obtain ⟨j,h1,hj,_⟩:=hmem _ cs hbx
    obtain rfl:k=j:=by omega
    rw [hγj k hj]
    have hb':ms[k]?=some b:=hb
    simp [List.getD_eq_getElem?_getD,hb']
 exact ⟨by omega,by rw [g1,a05],γ,hI⟩
theorem b9c {P:Program} {f:Nat} {res:List Rs} {as:List AV} {out:Out} {bs:List (List RV)} {fn:Func} {code:Code} (hf:P.funcs[f]?=some fn) (hb:fn.body=some code) (hres:Z3 P fn.results.toList res=true) (hn:fn.ntmps≤900) (hna:as.length≤fn.ntmps)
 (hs:∀ (F:Ctx) (γ:Nat→Value) (a:Act) (w:World) (Q:Exit→Act→World→Prop),F.n=fn.ntmps→Inv F γ (f7 as) a w→Post F (FinL res (d7 as).length out bs) Q→code.wp P Q a w):f9 P f as out bs:=by
 intro L w vs ms hL hgl hgb hargs hnd
 obtain ⟨g3,_,γ,hI⟩:=b7e (n:=fn.ntmps) hL hgl hgb hargs hnd hn hna
 let F:Ctx:={ L:=L,w0:=w,pb:=ms,n:=fn.ntmps }
 refine calls_of_wp hf hb (hs F γ _ w _ rfl hI ?_)
 clear hs
 have boxes:∀ (γe:Nat→Value) (ste:St) (a:Act) (we:World) (L':Nat→Prop),Inv F γe ste a we→bs.length=(d7 as).length→a3r ste 0 bs→Keeps (i8 L γe ste.mem) we L' we→a2c L' we bs ms:=fun γe ste a we L' hIe hl hbe hkk=>by
  refine ⟨by omega,fun i b cells hb hcells=>?_⟩
  obtain ⟨cs,h1,h2⟩:=a5o hbe i cells hcells
  rw [show 900+0+i=900+i from by omega] at h1
  have hp:=hIe.pin i b cs hb h1
  obtain ⟨b',arr,T,k1,k2,k3,k4,k5⟩:=hIe.mem.box _ cs h1
  rw [hp] at k1
  simp only [Value.pointer.injEq,Option.some.injEq,Addr.mk.injEq,and_true] at k1
  subst k1
  obtain ⟨v1,v2⟩:=b1w h2
  exact ⟨arr,T,k2,by omega,fun j hj=>⟨(v2 (fun j=>arr.getD j undef) (fun j hj=>(k5 j hj).1) j hj).mono hkk,(k5 j (by omega)).2⟩⟩
 have outside:∀ (γe:Nat→Value) (ste:St) (a:Act) (we:World),Inv F γe ste a we→Outside ms w we:=fun γe ste a we hIe=>⟨hIe.fr.os,hIe.fr.tape,hIe.fr.output,hIe.fr.size,fun k hk hp=>hIe.fr.block k hk (fun h=>by rcases h with h | ⟨i,h⟩;exact hp h;cases h)⟩
 have done:∀ (γe:Nat→Value) (ste:St) (a:Act) (we:World),Inv F γe ste a we→b5g res (d7 as).length out bs .ret ste →
  a.defers=[]∧∃ v,(results fn a.tmps).run P we=.ok v we∧(Outside ms w we∧match out with
   | .ret p rows=>∃ v' γ',Ending.returned v=.returned v'∧RepP γ' (i8 L γ' (l7 rows)) we p v'∧MemInv { L:=L,w0:=w,pb:=[],n:=0 } γ' (l7 rows) we∧a2c (i8 L γ' (l7 rows)) we bs ms
   | .pan r=>∃ v',Ending.returned v=.panicked [{ v:=v',recovered:=false }]∧RepR L we r v'∧a2c L we bs ms):=fun γe ste a we hIe hfin=>by
  simp only [b5g] at hfin
  obtain ⟨hbl,hfin⟩:=hfin
  cases out with
  | pan r=>exact hfin.elim
  | ret p rows=>
   obtain ⟨⟨ι,i1,i2,i3⟩,hbe⟩:=hfin
   obtain ⟨vr,hrun,hrep⟩:=a5v hIe hres i1
   refine ⟨hIe.df,vr,hrun,outside γe ste a we hIe,?_⟩
   let γ':Nat→Value:=fun i=>γe (ι i)
   have hrm:∀ i,(l7 rows i).live=true→i < rows.length∧∃ r,rows[i]?=some r∧l7 rows i=.row r.E r.sz r.xs:=fun i hi=>by
    cases e:rows[i]? with
    | none=>simp [l7,e,MObj.live] at hi
    | some r=>exact ⟨(List.getElem?_eq_some_iff.1 e).1,r,rfl,by simp [l7,e]⟩
   have hsub:∀ b,i8 L γ' (l7 rows) b→i8 L γe ste.mem b:=fun b hb=>by
    rcases hb with h | ⟨i,h1,h2⟩
    · exact .inl h
    · obtain ⟨_,r,hr,_⟩:=hrm i h1
      exact .inr ⟨ι i,by rw [i3 i r hr];rfl,h2⟩
   have hkk:Keeps (i8 L γe ste.mem) we (i8 L γ' (l7 rows)) we:=fun b o v hb hc=>⟨fun h=>hb (hsub b h),hc⟩
   refine ⟨_,γ',rfl,?_,⟨fun id cs hid=>?_,fun id E sz xs hid=>?_,fun id E sz n c hid=>(by unfold l7 at hid;split at hid<;>cases hid),fun id s clk m hid=>(by unfold l7 at hid;split at hid<;>cases hid),fun id id' b h1 h2 h3 h4=>?_⟩,boxes γe ste a we _ hIe hbl hbe hkk⟩
   · exact (RepP.ren p hrep).keep hkk
   · unfold l7 at hid;split at hid<;>cases hid
   · obtain ⟨hi,r,hr,he⟩:=hrm id (by rw [hid];rfl)
     rw [he] at hid
     cases hid
     obtain ⟨us,k1,k2,k3,k4⟩:=hIe.mem.row _ _ _ _ (i3 id r hr)
     exact ⟨us,k1.mono (fun b _ hb=>.inl (hb.own (.inr rfl) rfl)) (fun _ _=>rfl),k2,⟨k3.1,fun i k hi hk=>(k3.2 i k hi hk).mono hkk⟩,k4⟩
   · obtain ⟨hi1,r1,hr1,_⟩:=hrm id h1
     obtain ⟨hi2,r2,hr2,_⟩:=hrm id' h2
     exact i2 id id' hi1 hi2 (hIe.mem.inj _ _ b (by rw [i3 id r1 hr1];rfl) (by rw [i3 id' r2 hr2];rfl) h3 h4)
 intro e γe ste a we hIe hfin
 cases e with
 | normal=>
  obtain ⟨st',hle,hfin⟩:=hfin
  obtain ⟨γ'',hIe'⟩:=hle F γe a we hIe
  exact done γ'' st' a we hIe' hfin
 | ret=>
  obtain ⟨st',hle,hfin⟩:=hfin
  obtain ⟨γ'',hIe'⟩:=hle F γe a we hIe
  exact done γ'' st' a we hIe' hfin
 | exit id=>obtain ⟨_,_,hfin⟩:=hfin;exact hfin.elim
 | pan r=>
  intro v hv
  simp only [FinL,b5g] at hfin
  obtain ⟨hbl,hfin⟩:=hfin
  refine ⟨hIe.df,outside γe ste a we hIe,?_⟩
  cases out with
  | ret p rows=>exact hfin.elim
  | pan r'=>
   obtain ⟨rfl,hbe⟩:=hfin
   have hkk:Keeps (i8 L γe ste.mem) we L we:=fun b o v hb hc=>⟨fun h=>hb (.inl h),hc⟩
   exact ⟨v,rfl,hv.mono hkk,boxes γe ste a we _ hIe hbl hbe hkk⟩
theorem b58 {P:Program} {f:Nat} {c:PC} {res:List Rs} {as:List AV} {out:Out} {bs:List (List RV)} (hm:P.follows .mixedOrders=true) (hc:j8 P f c as.length res=true)
 (h:P9 P c (f7 as) (FinL res (d7 as).length out bs)):f9 P f as out bs:=by
 unfold j8 at hc
 split at hc
 · rename_i fn hf
   split at hc
   · rename_i code hb
     simp only [Bool.and_eq_true,beq_iff_eq,decide_eq_true_eq] at hc
     obtain ⟨⟨⟨hres,hn⟩,hna⟩,hc⟩:=hc
     exact b9c hf hb hres hn hna fun F γ a w Q hF hI hQ=>L3 hm c code (by rw [hF];exact hc) hI h hQ
   · cases hc
 · cases hc
end Go.PW
