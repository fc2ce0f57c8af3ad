/- The machine yields what stepS says: each operation that leaves memory as it is. -/
import Derived.Test.YtfoapolbgpjfaaaGreatDoorPWc
set_option linter.unusedSectionVars false
set_option linter.unusedSimpArgs false
set_option linter.unusedVariables false
namespace Go.PW
variable [GF]
open Go.RowKit
section
variable {P:Program} {F:Ctx} {γ:Nat→Value} {st:St} {a:Act} {w:World} {o:Oper} {K:Act→World→Prop} {Q:Exit→Act→World→Prop}
theorem k6 {v:Value} {w':World} (h:(execOp a.eval o).run P w=.ok (.value v) w') (hk:K (a.put o.dst v) w'):o.wp P a w K Q:=by
 unfold Oper.wp Oper.upon
 rw [h]
 exact hk
theorem P7 {s:Sem Value} {v:Value} {w':World} (h:s.run P w=.ok v w'):((do pure (Next.value (← s))):Sem Next).run P w=.ok (.value v) w':=by
 simp [h]
theorem a47 {t:TypeId} {i:TypeInfo} (h:P.info? t=some i) (w:World):(typeInfo t).run P w=.ok i w:=by
 unfold typeInfo;simp [h]
theorem Q7 {t:TypeId} {i:TypeInfo} (h:P.info? t=some i) (w:World):(sizeOf t).run P w=.ok i.size w:=by
 unfold sizeOf;simp [a47 h]
theorem a14 {t:TypeId} {b:Bool} (h:a6h P t=some b) (w:World):(isAgg t).run P w=.ok b w:=by
 unfold a6h at h
 unfold isAgg
 cases hu:P.underlying t with
 | none=>simp [hu] at h
 | some d=>
  simp [run_underlying hu]
  cases d<;>simp [hu] at h<;>simp [h]
theorem RepP.bool {L:Nat→Prop} {b:Bool} {v:Value} (h:RepP γ L w (.val (.bool b)) v):v=.bool b:=by
 cases h with | val _ _ h=>cases h;rfl
theorem RepP.int {L:Nat→Prop} {k:IntKind} {n:Int} {v:Value} (h:RepP γ L w (.val (.int k n)) v):v=.int k n:=by
 cases h with | val _ _ h=>cases h;rfl
theorem RepP.str {L:Nat→Prop} {s:ByteArray} {v:Value} (h:RepP γ L w (.val (.str s)) v):v=.string s:=by
 cases h with | val _ _ h=>cases h;rfl
theorem a09 {L:Nat→Prop} (b:Bool):RepP γ L w (.val (.bool b)) (.bool b):=.val _ _ (.bool b)
theorem S4 {L:Nat→Prop} (k:IntKind) (n:Int):RepP γ L w (.val (.int k n)) (.int k n):=.val _ _ (.int k n)
theorem b5p {L:Nat→Prop} (s:ByteArray):RepP γ L w (.val (.str s)) (.string s):=.val _ _ (.str s)
theorem ba_beq (x y:ByteArray):(x.toList == y.toList)=decide (x=y):=by
 rw [ByteArray.toList_eq,ByteArray.toList_eq]
 by_cases h:x=y
 · subst h;simp
 · have h':x.data.toList≠y.data.toList:=fun hh=>h (by cases x;cases y;exact congrArg ByteArray.mk (Array.toList_inj.1 hh))
   rw [beq_eq_false_iff_ne.2 h',decide_eq_false h]
theorem b7k {op:BinOp} {t:TypeId} {x y:Operand} {p q:PV} {k:PV→Prop}
 (hx:RepP γ (i8 F.L γ st.mem) w p (a.eval x)) (hy:RepP γ (i8 F.L γ st.mem) w q (a.eval y)) (h:b5c op p q k) :
 ∃ v r,(do eqGuard op t x y (a.eval x) (a.eval y);binOp op t (a.eval x) (a.eval y):Sem Value).run P w=.ok v w∧RepP γ (i8 F.L γ st.mem) w r v∧k r:=by
 unfold b5c at h
 split at h
 · rename_i k1 n1 k2 n2
   obtain ⟨rfl,h⟩:=h
   rw [hx.int,hy.int]
   have hg:∀ w,(eqGuard op t x y (.int k1 n1) (.int k1 n2)).run P w=.ok () w:=by
    intro w;unfold eqGuard;cases op<;>simp
   unfold b7l at h
   cases op<;>simp only at h<;>first
    | exact h.elim
    | (obtain ⟨hne,h⟩:=h
       refine ⟨_,_,?_,S4 _ _,h⟩
       simp [hg,binOp,Op.intDiv,hne];done)
    | (refine ⟨_,_,?_,S4 _ _,h⟩
       simp [hg,binOp,Op.intArith,Op.intCmp];done)
    | (refine ⟨_,_,?_,a09 _,h⟩
       simp [hg,binOp,Op.intArith,Op.intCmp];done)
 · rename_i s1 s2
   rw [hx.str,hy.str]
   have hg:∀ w,(eqGuard op t x y (.string s1) (.string s2)).run P w=.ok () w:=by
    intro w;unfold eqGuard;cases op<;>simp
   unfold a6g at h
   cases op<;>simp only at h<;>first
    | exact h.elim
    | (obtain ⟨hb,h⟩:=h
       have hn:¬ (((s1.size+s2.size:Nat):Int) > IntKind.i64.max):=by
        have:IntKind.i64.max=9223372036854775807:=by decide
        rw [this];omega
       refine ⟨_,_,?_,b5p _,h⟩
       simp only [hg,Sem.run_bind,Result.andThen_ok,binOp,Op.stringOp,Sem.run_ite,if_neg hn,Sem.run_pure])
    | (refine ⟨_,_,?_,a09 _,h⟩
       first
        | (simp only [hg,Sem.run_bind,Result.andThen_ok,binOp,Op.stringOp,ba_beq,Sem.run_pure];done)
        | (simp only [hg,Sem.run_bind,Result.andThen_ok,binOp,Op.stringOp,ByteArray.toList_eq,Sem.run_pure];done))
 · exact h.elim
theorem a4b {hi:Option Operand} {p:Option Opd} {len:Nat} {K':Nat→Prop} (hI:Inv F γ st a w) (hc:a1u p hi=true) (h:X2 (p.map (ev st)) len K') :
 ∃ n,n≤len∧K' n∧(match hi.map a.eval with | none=>n=len | some v=>∃ k,v=.int k n):=by
 unfold a1u at hc
 split at hc
 · exact ⟨len,Nat.le_refl _,h,rfl⟩
 · rename_i x y
   simp only [Option.map_some,X2] at h
   have hr:=j5 hI hc
   split at h
   · rename_i heq;cases heq
   · rename_i k n heq
     simp only [Option.some.injEq] at heq
     rw [heq] at hr
     obtain ⟨h0,h1,h2⟩:=h
     exact ⟨n.toNat,by omega,h2,k,by rw [hr.int,Int.toNat_of_nonneg h0]⟩
   · exact h.elim
 · cases hc
theorem a4a {lo:Option Operand} {p:Option Opd} {K':Nat→Prop} (hI:Inv F γ st a w) (hc:a1u p lo=true) (h:X1 (p.map (ev st)) K') :
 ∃ n,K' n∧(match lo.map a.eval with | none=>n=0 | some v=>∃ k,v=.int k n):=by
 unfold a1u at hc
 split at hc
 · exact ⟨0,h,rfl⟩
 · rename_i x y
   simp only [Option.map_some,X1] at h
   have hr:=j5 hI hc
   split at h
   · rename_i heq;cases heq
   · rename_i k n heq
     simp only [Option.some.injEq] at heq
     rw [heq] at hr
     obtain ⟨h0,h2⟩:=h
     exact ⟨n.toNat,h2,k,by rw [hr.int,Int.toNat_of_nonneg h0]⟩
   · exact h.elim
 · cases hc
theorem a0t {isS:Bool} {len cap l h:Nat} {lo hi:Option Value} (hlo:match lo with | none=>l=0 | some v=>∃ k,v=.int k l) (hhi:match hi with | none=>h=len | some v=>∃ k,v=.int k h)
 (h1:l≤h) (h2:h≤len) (h3:len≤cap) (w:World):(Instr.sliceBounds isS len cap lo hi none).run P w=.ok (l,h,cap) w:=by
 have hb:∀ (k:IntKind) (n y:Nat) (c:BoundsCode),n≤y→(Instr.sliceBound (.int k n) y c).run P w=.ok n w:=fun k n y c hn=>by
  unfold Instr.sliceBound
  have:(0:Int)≤n∧(n:Int)≤y:=⟨by omega,by omega⟩
  simp [asIntOf,this]
 unfold Instr.sliceBounds
 cases lo with
 | none=>
  cases hi with
  | none=>simp_all
  | some v=>obtain ⟨k,rfl⟩:=hhi;simp_all [hb _ _ _ _ (show h≤cap by omega)]
 | some u=>
  obtain ⟨k',rfl⟩:=hlo
  cases hi with
  | none=>simp_all [hb]
  | some v=>obtain ⟨k,rfl⟩:=hhi;simp_all [hb _ _ _ _ (show h≤cap by omega),hb _ _ _ _ h1]
theorem a8v {α:Type} (xs:List α) (l h i:Nat) (d:α) (hi:i < (xs.take h).length - l):((xs.take h).drop l).getD i d=xs.getD (l+i) d:=by
 simp only [List.length_take] at hi
 simp [List.getD_eq_getElem?_getD,List.getElem?_take,show l+i < h by omega]
theorem RepR.slice {L:Nat→Prop} {sz:Nat} {xs:List RV} {A:Option Addr} {n c l h:Nat} (hr:RepR L w (.list sz xs) (.slice A n c)) (h1:l≤h) (h2:h≤xs.length) :
 n=xs.length∧n≤c∨xs=[]∧n=0:=by
 cases hr with
 | list0=>exact .inr ⟨rfl,rfl⟩
 | list _ _ b o c f h0 hsz hcap=>exact .inl ⟨rfl,hcap⟩
theorem b6m {z:Nat} {t:TypeId} {x:Operand} {lo hi:Option Operand} {p:PV} {plo phi:Option Opd} {k:PV→Prop} (hI:Inv F γ st a w)
 (hx:RepP γ (i8 F.L γ st.mem) w p (a.eval x)) (hlo:a1u plo lo=true) (hhi:a1u phi hi=true)
 (hu:(match P.underlying t with | some (.slice e)=>z != 0 && (match P.info? e with | some i=>i.size == z | none=>false) | some .string=>z == 0 | _=>false)=true)
 (h:a66 z p (plo.map (ev st)) (phi.map (ev st)) k) :
 ∃ v r,(Instr.sliceAt t (a.eval x) (lo.map a.eval) (hi.map a.eval) none).run P w=.ok v w∧RepP γ (i8 F.L γ st.mem) w r v∧k r:=by
 unfold a66 at h
 split at h
 · rename_i s
   obtain ⟨hz,h⟩:=h
   have ht:P.underlying t=some .string:=by
    split at hu
    · simp [hz] at hu
    · assumption
    · cases hu
   obtain ⟨hn,hh1,hh2,hh3⟩:=a4b hI hhi h
   obtain ⟨ln,hl2,hl3⟩:=a4a hI hlo hh2
   refine ⟨_,_,?_,b5p _,hl2.2⟩
   rw [hx.str]
   unfold Instr.sliceAt Instr.slice
   simp [run_underlying ht,a0t hl3 hh3 hl2.1 hh1 (Nat.le_refl _)]
 · rename_i sz xs
   obtain ⟨hz1,hz2,h⟩:=h
   obtain ⟨e,i,ht,hi,hes⟩:∃ e i,P.underlying t=some (.slice e)∧P.info? e=some i∧i.size=sz:=by
    split at hu
    · rename_i e he
      simp only [Bool.and_eq_true] at hu
      obtain ⟨_,hu⟩:=hu
      split at hu
      · rename_i i hi
        exact ⟨e,i,he,hi,by rw [← hz1];simpa using hu⟩
      · cases hu
    · simp [hz2] at hu
    · cases hu
   obtain ⟨hn,hh1,hh2,hh3⟩:=a4b hI hhi h
   obtain ⟨ln,hl2,hl3⟩:=a4a hI hlo hh2
   cases hx with
   | val _ _ hr=>
    generalize a.eval x=v at hr
    cases hr with
    | list0 _ A c=>
     simp only [List.length_nil,Nat.le_zero] at hh1
     subst hh1
     obtain rfl:ln=0:=by omega
     refine ⟨.slice (if c=0 then A else A.map (·.add (0*i.size))) 0 c,_,?_,.val _ _ ?_,hl2.2⟩
     · have hsb:=a0t (P:=P) (isS:=true) (len:=0) (cap:=c) hl3 (by simpa using hh3) (Nat.le_refl _) (Nat.le_refl _) (Nat.zero_le c) w
       unfold Instr.sliceAt Instr.slice
       simp [run_underlying ht,hsb,Q7 hi]
     · simpa using RepR.list0 sz _ c
    | list _ _ b o c f h0 hs hcap hb hc hx h=>
     refine ⟨.slice (if c=ln then some ⟨b,o,none⟩ else some ((⟨b,o,none⟩:Addr).add (ln*i.size))) (hn - ln) (c - ln),_,?_,.val _ _ ?_,hl2.2⟩
     · unfold Instr.sliceAt Instr.slice
       simp [run_underlying ht,a0t hl3 hh3 hl2.1 hh1 hcap,Q7 hi]
     · by_cases he:hn=ln
       · subst he
         have:(xs.take hn).drop hn=[]:=by simp [List.drop_eq_nil_iff]
         rw [this,Nat.sub_self]
         exact .list0 _ _ _
       · have hlt:ln < hn:=by omega
         have hlen:((xs.take hn).drop ln).length=hn - ln:=by simp [Nat.min_eq_left hh1]
         have hne:c≠ln:=by omega
         rw [if_neg hne,hes]
         have hadd:(⟨b,o,none⟩:Addr).add (ln*sz)=⟨b,o+ln*sz,none⟩:=by unfold Addr.add;split<;>simp_all
         rw [hadd,← hlen]
         refine .list sz _ b (o+ln*sz) (c - ln) (fun j=>f (ln*sz+j)) (fun e=>by rw [e] at hlen;simp at hlen;omega) hs (by omega) hb (fun j hj=>?_) (fun y hy=>hx y (List.mem_of_mem_take (List.mem_of_mem_drop hy))) (fun i k hi' hk=>?_)
         · rw [hlen] at hj
           have:=hc (ln*sz+j) (by
            have h3:(hn - ln)*sz+ln*sz=hn*sz:=by rw [← Nat.add_mul];congr 1;omega
            have h4:hn*sz≤xs.length*sz:=Nat.mul_le_mul_right _ hh1
            omega)
           rw [← this];congr 2;omega
         · rw [a8v _ _ _ _ _ (by simp [Nat.min_eq_left hh1];omega)]
           have:=h (ln+i) k (by omega) hk
           rwa [Nat.add_mul,Nat.add_assoc] at this
 · exact h.elim
end
end Go.PW
