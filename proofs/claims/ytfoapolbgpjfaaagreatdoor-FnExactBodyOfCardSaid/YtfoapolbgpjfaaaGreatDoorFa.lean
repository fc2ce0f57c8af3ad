/- Fa: merged out of KTa, KTb. -/
import Derived.Test.YtfoapolbgpjfaaaGreatDoorAc
import Derived.Deep.Slices
import Derived.Carry
import Derived.ProofKit
import Derived.Handed
import Derived.ChangeVars
import Derived.Stop.Joined
set_option linter.unusedSectionVars false
set_option linter.unusedSimpArgs false
set_option linter.unusedVariables false
section
namespace Go.PW
open Go.RowKit Go.KP Go.ChangeShapes
def a5j (P:Program) (t:TypeId):Bool:=match P.underlying t with
 | some (.struct _)=>true
 | _=>false
def b2j (P:Program) (t:TypeId) (cs:List RV):RV:=if a5j P t then .agg cs else cs.getD 0 .nilptr
def b9m (Q:TypeId→List RV→Prop):List Field→List RV→Prop
 | [],rs=>rs=[]
 | f :: fs,rs=>∃ r1 r2,rs=r1++r2∧Q f.type r1∧b9m Q fs r2
def a0r (P:Program):Nat→TypeId→List RV→Prop
 | 0,_,_=>False
 | n+1,t,rs=>match P.underlying t with
  | some .bool=>∃ b,rs=[.bool b]
  | some (.int k)=>∃ m,rs=[.int k m]∧(Lit.int k m).wf=true
  | some .string=>∃ s,rs=[.str s]∧s.size≤maxLen
  | some (.slice e)=>∃ css:List (List RV),rs=[.list (P.cellsOf e) (css.map (b2j P e))]∧css.length≤maxLen∧∀ cs∈css,a0r P n e cs
  | some (.struct fs)=>b9m (a0r P n) fs.toList rs
  | _=>False
def b14 (P:Program):Nat→List Field→Nat→Bool
 | off,[],tot=>off == tot
 | off,f :: fs,tot=>f.offset == off && b14 P (off+P.cellsOf f.type) fs tot
def a29 (P:Program):Nat→TypeId→Bool
 | 0,_=>false
 | n+1,t=>match P.underlying t with
  | some .bool=>P.cellsOf t == 1
  | some (.int _)=>P.cellsOf t == 1
  | some .string=>P.cellsOf t == 1
  | some (.slice e)=>P.cellsOf t == 1 && decide (0 < P.cellsOf e) && a29 P n e
  | some (.struct fs)=>b14 P 0 fs.toList (P.cellsOf t) && fs.toList.all fun f=>a29 P n f.type
  | _=>false
def a5p (w:World) (rs:List RV) (cs:List Value):Prop:=rs.length=cs.length∧∀ j,j < rs.length→RepR (fun _=>False) w (rs.getD j .nilptr) (cs.getD j undef)
theorem a3v {w:World} {r:RV} {v:Value} (h:RepR (fun _=>False) w r v):a5p w [r] [v]:=⟨rfl,fun j hj=>by
 have:j=0:=by simpa using hj
 subst this;exact h⟩
theorem b0x {w:World} {r1 r2:List RV} {c1 c2:List Value} (h1:a5p w r1 c1) (h2:a5p w r2 c2):a5p w (r1++r2) (c1++c2):=by
 refine ⟨by simp [h1.1,h2.1],fun j hj=>?_⟩
 by_cases hlt:j < r1.length
 · have e1:(r1++r2).getD j .nilptr=r1.getD j .nilptr:=by simp [List.getD_eq_getElem?_getD,List.getElem?_append_left hlt]
   have e2:(c1++c2).getD j undef=c1.getD j undef:=by simp [List.getD_eq_getElem?_getD,List.getElem?_append_left (show j < c1.length by have:=h1.1;omega)]
   rw [e1,e2]
   exact h1.2 j hlt
 · have h1l:=h1.1
   have e1:(r1++r2).getD j .nilptr=r2.getD (j - r1.length) .nilptr:=by simp [List.getD_eq_getElem?_getD,List.getElem?_append_right (show r1.length≤j by omega)]
   have e2:(c1++c2).getD j undef=c2.getD (j - c1.length) undef:=by simp [List.getD_eq_getElem?_getD,List.getElem?_append_right (show c1.length≤j by omega)]
   rw [e1,e2,← h1l]
   exact h2.2 _ (by simp at hj;omega)
theorem a33 {w:World} {base:Nat} {a:Addr} {n:Nat} {cs:List Value} (h:w.cells? base a n=some cs):cs.length=n∧∀ i,i < n→w.cell? (a.add i)=some (cs.getD i undef):=by
 unfold World.cells? at h
 split at h
 · have hl:∀ (l:List Nat) (cs:List Value),l.mapM (fun i=>w.cell? (a.add i))=some cs→cs.length=l.length∧∀ k,k < l.length→w.cell? (a.add (l.getD k 0))=some (cs.getD k undef):=by
    intro l
    induction l with
    | nil=>intro cs h;simp at h;subst h;simp
    | cons x l ih=>
     intro cs h
     simp only [List.mapM_cons,Option.bind_eq_bind,Option.bind_eq_some_iff,Option.pure_def,Option.some.injEq] at h
     obtain ⟨b,hb,r,hr,rfl⟩:=h
     obtain ⟨h1,h2⟩:=ih r hr
     refine ⟨by simp [h1],fun k hk=>?_⟩
     cases k with
     | zero=>simpa using hb
     | succ k=>simpa using h2 k (by simpa using hk)
   obtain ⟨h1,h2⟩:=hl _ _ h
   refine ⟨by simpa using h1,fun i hi=>?_⟩
   have:=h2 i (by simpa using hi)
   simpa [List.getD_eq_getElem?_getD,List.getElem?_range hi] using this
 · cases h
theorem b6l {w:World} {a:Addr} {v:Value} (h:w.cell? a=some v):a=⟨a.block,a.off,none⟩:=by
 cases a with
 | mk b o s=>
  cases s with
  | none=>rfl
  | some s=>
   exfalso
   unfold World.cell? at h
   split at h
   · simp at h
   · cases h
theorem a9k (b o i:Nat):(Addr.add ⟨b,o,none⟩ i)=⟨b,o+i,none⟩:=by
 unfold Addr.add
 split
 · rename_i h;subst h;rfl
 · rfl
variable {H:Type} {enc:TypeId×Value→H} {P:Program} {w:World}
theorem b0c {n base fuel:Nat} {sp:Nat→Bool} {hd:Bool}
 (ih:∀ (t:TypeId) (cs:List Value) (x:DataW H×List MemPlace),a29 P n t=true→DataW.trod enc P w base sp hd fuel t cs=some x→cs.length=P.cellsOf t→∃ rs,a0r P n t rs∧a5p w rs cs) :
 ∀ (fs:List Field) (off tot:Nat) (cs:List Value),b14 P off fs tot=true→cs.length=tot→(fs.all fun f=>a29 P n f.type)=true →
  (∀ f∈fs,∃ y,DataW.trod enc P w base sp hd fuel f.type ((cs.drop f.offset).take (P.cellsOf f.type))=some y)→off≤tot→∃ rs,b9m (a0r P n) fs rs∧a5p w rs (cs.drop off)
 | [],off,tot,cs,hs,hl,_,_,_=>by
  simp only [b14,beq_iff_eq] at hs
  refine ⟨[],rfl,?_⟩
  rw [List.drop_eq_nil_of_le (by omega)]
  exact ⟨rfl,fun j hj=>by simp at hj⟩
 | f :: fs,off,tot,cs,hs,hl,hp,hx,hle=>by
  simp only [b14,Bool.and_eq_true,beq_iff_eq] at hs
  obtain ⟨ho,hs⟩:=hs
  simp only [List.all_cons,Bool.and_eq_true] at hp
  obtain ⟨x,hx1⟩:=hx f (by simp)
  have hx2:=fun g (hg:g∈fs)=>hx g (List.mem_cons_of_mem _ hg)
  have hle2:off+P.cellsOf f.type≤tot:=by
   have key:∀ (fs:List Field) (o:Nat),b14 P o fs tot=true→o≤tot:=by
    intro fs
    induction fs with
    | nil=>intro o h;simp only [b14,beq_iff_eq] at h;omega
    | cons g gs ihg=>
     intro o h
     simp only [b14,Bool.and_eq_true] at h
     have:=ihg _ h.2
     omega
   exact key fs _ hs
  rw [ho] at hx1
  have hl1:((cs.drop off).take (P.cellsOf f.type)).length=P.cellsOf f.type:=by simp;omega
  obtain ⟨r1,q1,q2⟩:=ih f.type _ x hp.1 hx1 hl1
  obtain ⟨r2,q3,q4⟩:=b0c ih fs (off+P.cellsOf f.type) tot cs hs hl hp.2 hx2 hle2
  refine ⟨r1++r2,⟨r1,r2,rfl,q1,q3⟩,?_⟩
  have e:cs.drop off=(cs.drop off).take (P.cellsOf f.type)++cs.drop (off+P.cellsOf f.type):=by
   rw [← List.drop_drop]
   exact (List.take_append_drop _ _).symm
  rw [e]
  exact b0x q2 q4
theorem b16 {n:Nat} {t:TypeId} {rs:List RV} (h:a0r P n t rs) (hns:a5j P t=false):∃ r,rs=[r]∧r.cells=[r]:=by
 cases n with
 | zero=>exact h.elim
 | succ n=>
  unfold a0r at h
  unfold a5j at hns
  split at h
  · obtain ⟨b,rfl⟩:=h;exact ⟨_,rfl,rfl⟩
  · obtain ⟨m,rfl,_⟩:=h;exact ⟨_,rfl,rfl⟩
  · obtain ⟨s,rfl,_⟩:=h;exact ⟨_,rfl,rfl⟩
  · obtain ⟨css,rfl,_⟩:=h;exact ⟨_,rfl,rfl⟩
  · rename_i fs hfs
    rw [hfs] at hns;cases hns
  · exact h.elim
theorem a8e {n:Nat} {t:TypeId} {rs:List RV} (h:a0r P n t rs):(b2j P t rs).cells=rs:=by
 unfold b2j
 cases hs:a5j P t with
 | true=>rfl
 | false=>
  obtain ⟨r,rfl,hr⟩:=b16 h hs
  simpa using hr
theorem b0t {base:Nat} {sp:Nat→Bool} {hd:Bool}:∀ (n fuel:Nat) (t:TypeId) (cs:List Value) (x:DataW H×List MemPlace),a29 P n t=true→DataW.trod enc P w base sp hd fuel t cs=some x→cs.length=P.cellsOf t→∃ rs,a0r P n t rs∧a5p w rs cs
 | 0,_,_,_,_,h,_,_=>by simp [a29] at h
 | n+1,0,_,_,_,_,h,_=>by simp [DataW.trod] at h
 | n+1,fuel+1,t,cs,x,hp,h,hl=>by
  unfold a29 at hp
  split at hp
  · rename_i hu
    unfold DataW.trod at h
    rw [hu] at h
    split at h<;>simp_all
    refine ⟨_,?_,a3v (.bool _)⟩
    unfold a0r
    rw [hu]
    exact ⟨_,rfl⟩
  · rename_i k hu
    unfold DataW.trod at h
    rw [hu] at h
    split at h<;>simp_all
    obtain ⟨⟨rfl,hw⟩,_⟩:=h
    refine ⟨_,?_,a3v (.int _ _)⟩
    unfold a0r
    rw [hu]
    exact ⟨_,rfl,hw⟩
  · rename_i hu
    unfold DataW.trod at h
    rw [hu] at h
    split at h<;>simp_all
    refine ⟨_,?_,a3v (.str _)⟩
    unfold a0r
    rw [hu]
    exact ⟨_,rfl,h.1⟩
  · rename_i e hu
    simp only [Bool.and_eq_true,beq_iff_eq,decide_eq_true_eq] at hp
    obtain ⟨⟨hc1,hpos⟩,hpe⟩:=hp
    have hdone:∀ (v:Value) (css:List (List RV)),cs=[v]→css.length≤maxLen→(∀ c∈css,a0r P n e c)→RepR (fun _=>False) w (.list (P.cellsOf e) (css.map (b2j P e))) v→∃ rs,a0r P (n+1) t rs∧a5p w rs cs:=fun v css hcs h1 h2 h3=>by
     refine ⟨_,?_,hcs ▸ a3v h3⟩
     unfold a0r
     rw [hu]
     exact ⟨css,rfl,h1,h2⟩
    rcases Deep.open_slice hu h with ⟨rfl,_⟩ | ⟨a,len,cap,m,k,D,Pl,rfl,hb,hlc,hcm,hm,_,hel⟩
    · exact hdone _ [] rfl (by simp) (by simp) (.list0 _ _ _)
    · have hmk:len≤m:=by rw [hm];split<;>omega
      have hall:∀ i,i≤len→∃ css:List (List RV),css.length=i∧∀ j,j < i→a0r P n e (css.getD j [])∧∃ cs',w.cells? base (a.add (j*P.cellsOf e)) (P.cellsOf e)=some cs'∧a5p w (css.getD j []) cs':=by
       intro i
       induction i with
       | zero=>intro _;exact ⟨[],rfl,fun j hj=>by omega⟩
       | succ i ihi=>
        intro hi
        obtain ⟨css,h1,h2⟩:=ihi (by omega)
        obtain ⟨cs',h3,h4⟩:=hel i (by omega)
        obtain ⟨rs,q1,q2⟩:=b0t n k e cs' _ hpe h4 (a33 h3).1
        refine ⟨css++[rs],by simp [h1],fun j hj=>?_⟩
        by_cases hji:j < i
        · have:(css++[rs]).getD j []=css.getD j []:=by simp [List.getD_eq_getElem?_getD,List.getElem?_append_left (show j < css.length by omega)]
          rw [this]
          exact h2 j hji
        · have hje:j=i:=by omega
          subst hje
          have:(css++[rs]).getD j []=rs:=by simp [List.getD_eq_getElem?_getD,List.getElem?_append_right (show css.length≤j by omega),h1]
          rw [this]
          exact ⟨q1,cs',h3,q2⟩
      obtain ⟨css,h1,h2⟩:=hall len (Nat.le_refl _)
      have hmem:∀ c∈css,a0r P n e c:=fun c hc=>by
       obtain ⟨j,hj,rfl⟩:=List.getElem_of_mem hc
       have:=(h2 j (by omega)).1
       simpa [List.getD_eq_getElem?_getD,List.getElem?_eq_getElem hj] using this
      refine hdone _ css rfl (by omega) hmem ?_
      by_cases h0:len=0
      · subst h0
        have:css=[]:=List.eq_nil_of_length_eq_zero h1
        subst this
        exact .list0 _ _ _
      · obtain ⟨_,cs0,hc0,_⟩:=h2 0 (by omega)
        have ha:a=⟨a.block,a.off,none⟩:=by
         have:=(a33 hc0).2 0 hpos
         rw [Nat.zero_mul] at this
         have e0:∀ b:Addr,b.add 0=b:=fun b=>by simp [Addr.add]
         rw [e0,e0] at this
         exact b6l this
        generalize a.block=b at *
        generalize a.off=o at *
        subst ha
        have hcell:∀ i k,i < len→k < P.cellsOf e→∃ v,w.cell? ⟨b,o+(i*P.cellsOf e+k),none⟩=some v∧RepR (fun _=>False) w ((css.getD i []).getD k .nilptr) v:=fun i k hi hk=>by
         obtain ⟨_,cs',q1,q2⟩:=h2 i hi
         have q3:=a33 q1
         have q4:=q3.2 k hk
         rw [a9k,a9k,Nat.add_assoc] at q4
         exact ⟨_,q4,q2.2 k (by rw [q2.1,q3.1];exact hk)⟩
        have hlen2:(css.map (b2j P e)).length=len:=by simp [h1]
        have hrl:=RepR.list (L:=fun _=>False) (w:=w) (P.cellsOf e) (css.map (b2j P e)) b o cap (fun j=>(w.cell? ⟨b,o+j,none⟩).getD undef) (by intro hn;rw [hn] at hlen2;simp at hlen2;omega) hpos (by rw [hlen2];exact hlc) (by simp)
         (fun j hj=>by
          rw [hlen2] at hj
          obtain ⟨v,hv,_⟩:=hcell (j / P.cellsOf e) (j % P.cellsOf e) ((Nat.div_lt_iff_lt_mul hpos).2 hj) (Nat.mod_lt _ hpos)
          rw [Nat.mul_comm,Nat.div_add_mod] at hv
          rw [hv];rfl)
         (fun x hx=>by
          obtain ⟨c,hc,rfl⟩:=List.mem_map.1 hx
          rw [a8e (hmem c hc)]
          obtain ⟨j,hj,rfl⟩:=List.getElem_of_mem hc
          obtain ⟨_,cs',q1,q2⟩:=h2 j (by omega)
          have q3:=(a33 q1).1
          have q4:=q2.1
          simp only [List.getD_eq_getElem?_getD,List.getElem?_eq_getElem hj,Option.getD_some] at q4
          omega)
         (fun i k hi hk=>by
          rw [hlen2] at hi
          obtain ⟨v,hv,hr⟩:=hcell i k hi hk
          rw [hv]
          have hi':i < css.length:=by omega
          have e1:(css.map (b2j P e)).getD i .nilptr=b2j P e (css.getD i []):=by simp [List.getD_eq_getElem?_getD,List.getElem?_eq_getElem hi']
          rw [e1,a8e (h2 i hi).1]
          exact hr)
        rw [hlen2] at hrl
        exact hrl
  · rename_i fs hu
    simp only [Bool.and_eq_true] at hp
    obtain ⟨xs,k,hk,_,hcl,hxl,hf⟩:=DataW.trod_struct hu h
    have hk:fuel=k:=by omega
    subst hk
    obtain ⟨rs,q1,q2⟩:=b0c (n:=n) (base:=base) (fuel:=fuel) (sp:=sp) (hd:=hd) (enc:=enc) (fun t cs x h1 h2 h3=>b0t n fuel t cs x h1 h2 h3) fs.toList 0 (P.cellsOf t) cs hp.1 hcl hp.2 (fun f hfm=>by
     obtain ⟨i,hi,rfl⟩:=List.getElem_of_mem hfm
     have hi':i < fs.size:=by simpa using hi
     have:=hf i fs[i] (by simp [Array.getElem?_eq_getElem hi'])
     rw [List.getElem?_eq_getElem (by omega)] at this
     exact ⟨_,by simpa using this⟩) (Nat.zero_le _)
    refine ⟨rs,?_,by simpa using q2⟩
    unfold a0r
    rw [hu]
    exact q1
  · cases hp
end Go.PW
end
section
namespace Go.PW
open Go.RowKit Go.KP Go.ChangeShapes Go.WideShapes
section
variable {H:Type} {enc:TypeId×Value→H} {P:Program} {W W':World}
theorem a39 (hl:laidOutB P=true) (hb:Below W.heap.size W W'):∀ {ts:List TypeId} {vs:List Value} {ds:List (DataW H)} {p:List MemPlace},(ts.all fun t=>P.readableRec t && decide (t < P.types.size))=true →
 DataW.TrodAll enc P W 0 (fun _=>true) true ts vs ds p→(∀ x∈p,x.block < W.heap.size)→DataW.TrodAll enc P W' 0 (fun b=>decide (b < W.heap.size)) true ts vs ds p
 | [],vs,ds,p,_,h,_=>by
  obtain ⟨rfl,rfl,rfl⟩:=trodAll_nil h
  exact rfl
 | t :: ts,vs,ds,p,ht,h,hlt=>by
  obtain ⟨v,vs',d,ds',a,b,rfl,rfl,rfl,h1,h2⟩:=trodAll_cons h
  simp only [List.all_cons,Bool.and_eq_true,decide_eq_true_eq] at ht
  refine ⟨a,b,Below.trod hl ht.1.1 ht.1.2 h1 hb (fun x hx=>hlt x (List.mem_append_left _ hx)),a39 hl hb (by simpa using ht.2) h2 (fun x hx=>hlt x (List.mem_append_right _ hx)),rfl⟩
theorem b6q {fn:Func} {s:ChangeSpec} {args:Array Value} {ds:List (DataW H)} {before:List MemPlace} {tb:TypeId} (hl:laidOutB P=true) (hr:fn.resultTypes=#[tb]) (htb:P.underlying tb=some .bool) (hv:s.vars=[])
 (hp:(fn.params.toList.all fun t=>P.readableRec t && decide (t < P.types.size))=true) (hs:s.fn H ds={ results:=[.lit (.bool true)],args:=ds })
 (hW:DataW.Whole enc P fn.params.toList s.vars false W args.toList ds [] before) (hb:Below W.heap.size W W'):s.post enc P fn false true false false W args (.bool true) W':=by
 have hlt:∀ x∈before,x.block < W.heap.size:=fun x hx=>hW.lt x hx
 have hW':=hW
 obtain ⟨p,q,hA,hV,rfl,_,_⟩:=hW
 rw [hv] at hV
 obtain ⟨_,rfl⟩:=trodVars_none hV
 rw [List.append_nil] at hlt
 refine ⟨ds,[],_,[],p,[],hW',?_,?_,?_,hb.frame _,fun h=>by cases h⟩
 · rw [List.append_nil,hs,hr]
   exact trodAll_mk1 (shut_bool htb _)
 · rw [List.append_nil,hs]
   exact a39 hl hb hp hA hlt
 · rw [List.append_nil,hs,hv]
   exact rfl
theorem arg_agg {n:Nat} {t:TypeId} {arr:Array Value} {d:DataW H} {p:List MemPlace} (hp:a29 P n t=true) (hc:arr.size=P.cellsOf t) (h:DataW.Trod enc P W 0 (fun _=>true) true t (.agg arr) d p) :
 ∃ rs,a0r P n t rs∧RepR (fun _=>False) W (.agg rs) (.agg arr):=by
 obtain ⟨fuel,hf⟩:=h
 obtain ⟨rs,h1,h2⟩:=b0t n fuel t _ _ hp hf (by simpa [Value.cells] using hc)
 have hl:rs.length=arr.size:=by have:=h2.1;simpa [Value.cells] using this
 refine ⟨rs,h1,.agg rs arr hl.symm fun i hi=>?_⟩
 have:=h2.2 i hi
 simpa [Value.cells,List.getD_eq_getElem?_getD,Array.getD_eq_getD_getElem?] using this
end
theorem a9r {H:Type} {enc:TypeId×Value→H} {a:Assume} {C:Checked} {os:Os} {f:FuncId} {fn:Func} {s:ChangeSpec} {conds:List PathCond} {apart fresh handsOn again:Bool} {X:World→Array Value→Prop}
 (hX:∀ (w w':World) (args:Array Value),w.heap=w'.heap→X w args→X w' args)
 (own:ownKnob C.prog.godebug=none) (started:os.Started) (noInit:C.prog.inits.idxOf? f=none) (hfn:C.prog.funcs[f]?=some fn)
 (witness:∃ (w:World) (tape:Tape) (i:Input),w.os=os∧(w.forCall tape i).Shaped C.prog∧i.vars=[]∧Input.okWide C.prog (w.forCall tape i) .any w.heap.size f i ∧
  ((s.pre enc C.prog fn conds apart (w.forCall tape i).memory i.args∧X (w.forCall tape i).memory i.args)∧sizedMet enc C.prog fn (OpenSpec.ofChange s) apart (w.forCall tape i).memory i.args)∧a.holds C.prog (lone (Frame.enter C.prog f i.args .normal) [] (w.forCall tape i)))
 (contract:∀ (W:World) (base:Nat) (args:Array Value) (ds gs:List (DataW H)) (before:List MemPlace),
  (∀ (j:Nat) t v,fn.params[j]?=some t→args[j]?=some v→Value.okWide C.prog W .any base t v) →
  DataW.Whole enc C.prog fn.params.toList s.vars apart W args.toList ds gs before→X W args→W.ShapedOpen C.prog →
  Calls C.prog f args W fun e W'=>∃ v,e=.returned v∧s.post enc C.prog fn apart fresh handsOn again W args v W') :
 ReturnsInHanded a C os f .any (fun w args=>(s.pre enc C.prog fn conds apart w args∧X w args)∧sizedMet enc C.prog fn (OpenSpec.ofChange s) apart w args) (s.post enc C.prog fn apart fresh handsOn again):=by
 refine returnsInHanded_of_calls own started noInit witness ?_
 intro w tape i _ hsh _ hok hpre hholds
 obtain ⟨_,_,_,fn',hfn',_,_,_,_,hval⟩:=hok
 have e:fn'=fn:=Option.some.inj (hfn'.symm.trans hfn)
 subst e
 obtain ⟨⟨⟨ds,gs,before,hw,hc⟩,hx⟩,hz⟩:=hpre
 have hw':=DataW.Whole.of_heap (w':=w.forCall tape i) (by rfl) hw
 refine (contract (w.forCall tape i) w.heap.size i.args ds gs before hval hw' (hX _ _ _ (by rfl) hx) hsh).mono fun e W' ⟨v,he,hp⟩=>?_
 subst he
 exact ChangeSpec.post_blind hp
theorem b9b [GF] {P:Program} {f:Nat} {as:List AV} {r:RV} {w:World} {vs:List Value} {v:Value} (h:f9 P f as (.ret (.val r) []) []) (hg:Globs (fun _=>False) w) (hb:a9l (fun _=>False) w) (ha:ArgsRep (fun _=>False) w as vs [])
 (hr:∀ L w u,RepR L w r u→u=v):Calls P f vs.toArray w fun e w'=>e=.returned v∧Below w.heap.size w w':=by
 refine (h (fun _=>False) w vs [] (fun b hb=>hb.elim) hg hb ha (by simp)).mono fun e w' ⟨ho,u,γ,he,hp,_,_⟩=>?_
 cases hp with
 | val _ _ hp=>exact ⟨by rw [he,hr _ _ _ hp],ho.below⟩
end Go.PW
end
