/- A function's call: from what its code comes to, to its contract. -/
import Derived.Test.YtfoapolbgpjfaaaGreatDoorPWr
set_option linter.unusedSectionVars false
set_option linter.unusedSimpArgs false
set_option linter.unusedVariables false
namespace Go.PW
variable [GF]
open Go.RowKit
mutual
def k9 (k:Nat):AV→PV
 | .val r=>.val r
 | .box _=>.ptr (900+k) 0
 | .fn f caps=>.fn f (j4 k caps)
def j4 (k:Nat):List AV→List PV
 | []=>[]
 | a :: as=>k9 k a :: j4 (k+(f5 a).length) as
def f5:AV→List (List RV)
 | .val _=>[]
 | .box cs=>[cs]
 | .fn _ caps=>d7 caps
def d7:List AV→List (List RV)
 | []=>[]
 | a :: as=>f5 a++d7 as
end
def f7 (as:List AV):St where
 env:=fun x=>(j4 0 as).getD x .undef
 mem:=fun i=>if 900≤i then (match (d7 as)[i - 900]? with | some cs=>.box (cs.map .val) | none=>.dead) else .dead
def BoxAt (L:Nat→Prop) (w:World) (cells:List RV) (b:Nat):Prop:=
 L b∧∃ (arr:Array Value) (T:TypeId),w.heap[b]?=some (.cells arr T (0,0))∧arr.size=cells.length ∧
  ∀ j,j < cells.length→RepR L w (cells.getD j .nilptr) (arr.getD j undef)∧(arr.getD j undef).oneCell'=true
mutual
theorem b9k {γ:Nat→Value} {L:Nat→Prop} {w:World}:∀ (a:AV) (v:Value) (ms:List Nat) (k:Nat),ArgRep L w a v ms→(∀ j,j < ms.length→γ (900+k+j)=.pointer (some ⟨ms.getD j 0,0,none⟩)) →
 RepP γ L w (k9 k a) v∧ms.length=(f5 a).length∧∀ j,j < ms.length→BoxAt L w ((f5 a).getD j []) (ms.getD j 0)
 | .val r,v,ms,k,h,hγ=>by
  cases h with
  | val _ _ h=>exact ⟨.val r v h,rfl,fun j hj=>by simp at hj⟩
 | .box cs,v,ms,k,h,hγ=>by
  cases h with
  | box _ b arr T hb hs hL h h1=>
   refine ⟨.ptr _ 0 b (by simpa using hγ 0 (by simp)),rfl,fun j hj=>?_⟩
   have:j=0:=by simp at hj;omega
   subst this
   exact ⟨hL,arr,T,hb,hs,fun j hj=>⟨h j hj,h1 j hj⟩⟩
 | .fn f caps,v,ms,k,h,hγ=>by
  cases h with
  | fn _ _ vs _ h=>
   obtain ⟨h1,h2,h3,h4⟩:=a35 caps vs ms k h hγ
   exact ⟨.fn f _ _ (by simpa using h1) (fun i hi=>by simpa [← Array.getElem?_toList,Array.getD_eq_getD_getElem?,List.getD_eq_getElem?_getD] using h2 i hi),h3,h4⟩
theorem a35 {γ:Nat→Value} {L:Nat→Prop} {w:World}:∀ (as:List AV) (vs:List Value) (ms:List Nat) (k:Nat),ArgsRep L w as vs ms→(∀ j,j < ms.length→γ (900+k+j)=.pointer (some ⟨ms.getD j 0,0,none⟩)) →
 vs.length=(j4 k as).length∧(∀ i,i < (j4 k as).length→RepP γ L w ((j4 k as).getD i .undef) (vs.getD i undef))∧ms.length=(d7 as).length∧∀ j,j < ms.length→BoxAt L w ((d7 as).getD j []) (ms.getD j 0)
 | [],vs,ms,k,h,hγ=>by
  cases h
  exact ⟨rfl,fun i hi=>by simp [j4] at hi,rfl,fun j hj=>by simp at hj⟩
 | a :: as,vs,ms,k,h,hγ=>by
  cases h with
  | cons _ _ v vs ms1 ms2 h1 h2=>
   obtain ⟨g1,g2,g3⟩:=b9k (γ:=γ) a v ms1 k h1 (fun j hj=>by
    have:=hγ j (by simp;omega)
    rwa [List.getD_eq_getElem?_getD,List.getElem?_append_left hj,← List.getD_eq_getElem?_getD] at this)
   obtain ⟨k1,k2,k3,k4⟩:=a35 (γ:=γ) as vs ms2 (k+(f5 a).length) h2 (fun j hj=>by
    have:=hγ (ms1.length+j) (by simp;omega)
    rw [List.getD_eq_getElem?_getD,List.getElem?_append_right (by omega),← List.getD_eq_getElem?_getD] at this
    rw [show ms1.length+j - ms1.length=j from by omega] at this
    rwa [show 900+(k+(f5 a).length)+j=900+k+(ms1.length+j) from by omega])
   refine ⟨by simp [j4,k1],fun i hi=>?_,by simp [d7,g2,k3],fun j hj=>?_⟩
   · cases i with
     | zero=>simpa [j4] using g1
     | succ i=>simpa [j4] using k2 i (by simpa [j4] using hi)
   · simp only [d7]
     by_cases hj1:j < ms1.length
     · have:=g3 j hj1
       rwa [List.getD_eq_getElem?_getD,List.getElem?_append_left (by omega),← List.getD_eq_getElem?_getD,List.getD_eq_getElem?_getD (l:=ms1++ms2),List.getElem?_append_left hj1,← List.getD_eq_getElem?_getD]
     · have:=k4 (j - ms1.length) (by simp at hj;omega)
       rwa [List.getD_eq_getElem?_getD,List.getElem?_append_right (by omega),← List.getD_eq_getElem?_getD,List.getD_eq_getElem?_getD (l:=ms1++ms2),List.getElem?_append_right (by omega),← List.getD_eq_getElem?_getD,← g2]
end
inductive Rs where
 | t (s:Nat)
 | c (s:Nat) (agg:Bool) (n:Nat)
def a5w (st:St):Rs→Option PV
 | .t s=>some (st.env s)
 | .c s agg n=>match st.env s with
  | .ptr id o=>(match st.mem id with
   | .box cs=>if o+n≤cs.length∧0 < n then some (if agg then l4 ((cs.drop o).take n) else cs.getD o .undef) else none
   | _=>none)
  | _=>none
def a1o (st:St):List Rs→Option (List PV)
 | []=>some []
 | r :: rs=>match a5w st r,a1o st rs with
  | some p,some ps=>some (p :: ps)
  | _,_=>none
def J8 (res:List Rs) (st:St):Option PV:=match res with
 | [r]=>a5w st r
 | rs=>(a1o st rs).map .tup
def Z3 (P:Program):List ResultVar→List Rs→Bool
 | [],[]=>true
 | .tmp s :: l,.t s' :: rs=>s == s' && Z3 P l rs
 | .cell s t :: l,.c s' agg n :: rs=>s == s' && (match P.info? t with | some i=>i.size == n | none=>false) && a6h P t == some agg && (agg || n == 1) && Z3 P l rs
 | _,_=>false
def a3r (st:St):Nat→List (List RV)→Prop
 | _,[]=>True
 | k,b :: bs=>(match st.mem (900+k) with | .box cs=>o9 cs=some b | _=>False)∧a3r st (k+1) bs
def b5g (res:List Rs) (nb:Nat) (out:Out) (bs:List (List RV)):PExit→St→Prop
 | .exit _,_=>False
 | .pan r,st=>bs.length=nb∧match out with
  | .pan r'=>r=r'∧a3r st 0 bs
  | .ret ..=>False
 | _,st=>bs.length=nb∧match out with
  | .ret p rows=>(∃ ι:Nat→Nat,J8 res st=some (p.ren ι)∧(∀ i j,i < rows.length→j < rows.length→ι i=ι j→i=j)∧∀ i r,rows[i]?=some r→st.mem (ι i)=.row r.E r.sz r.xs)∧a3r st 0 bs
  | .pan _=>False
theorem a5o {st:St}:∀ {k:Nat} {bs:List (List RV)},a3r st k bs→∀ i b,bs[i]?=some b→∃ cs,st.mem (900+k+i)=.box cs∧o9 cs=some b
 | k,[],_,i,b,hb=>by simp at hb
 | k,b' :: bs,h,i,b,hb=>by
  cases i with
  | zero=>
   simp at hb;subst hb
   have:=h.1
   split at this
   · rename_i cs e;exact ⟨cs,e,this⟩
   · exact this.elim
  | succ i=>
   obtain ⟨cs,h1,h2⟩:=a5o h.2 i b (by simpa using hb)
   exact ⟨cs,by rw [← h1];congr 1;omega,h2⟩
theorem b1w:∀ {cs:List PV} {rs:List RV},o9 cs=some rs→cs.length=rs.length∧∀ {γ:Nat→Value} {L:Nat→Prop} {w:World} (f:Nat→Value),(∀ j,j < cs.length→RepP γ L w (cs.getD j .undef) (f j))→∀ j,j < rs.length→RepR L w (rs.getD j .nilptr) (f j)
 | [],rs,h=>by simp [o9] at h;subst h;exact ⟨rfl,fun f _ j hj=>by simp at hj⟩
 | p :: ps,rs,h=>by
  have go:∀ r rs',o9 ps=some rs'→rs=r :: rs'→(∀ {γ:Nat→Value} {L:Nat→Prop} {w:World} {v:Value},RepP γ L w p v→RepR L w r v)→(p :: ps).length=rs.length∧∀ {γ:Nat→Value} {L:Nat→Prop} {w:World} (f:Nat→Value),(∀ j,j < (p :: ps).length→RepP γ L w ((p :: ps).getD j .undef) (f j))→∀ j,j < rs.length→RepR L w (rs.getD j .nilptr) (f j):=fun r rs' h1 h2 h3=>by
   obtain ⟨g1,g2⟩:=b1w h1
   subst h2
   refine ⟨by simp [g1],fun f hf j hj=>?_⟩
   cases j with
   | zero=>exact h3 (by simpa using hf 0 (by simp))
   | succ j=>simpa using g2 (fun j=>f (j+1)) (fun j hj=>by simpa using hf (j+1) (by simpa using hj)) j (by simpa using hj)
  cases p with
  | val r=>
   simp [o9] at h
   obtain ⟨rs',h1,rfl⟩:=h
   exact go r rs' h1 rfl fun h=>h.valI
  | emp sz=>
   simp [o9] at h
   obtain ⟨rs',h1,rfl⟩:=h
   exact go (.list sz []) rs' h1 rfl fun h=>by rw [h.empI];exact .list0 _ _ _
  | _=>simp [o9] at h
section
variable {P:Program} {F:Ctx} {γ:Nat→Value} {st:St} {a:Act} {w:World}
theorem res_one (hI:Inv F γ st a w) {g:ResultVar→Sem Value} (h1:∀ t,g (.tmp t)=pure (a.tmps.getD t undef)) (h2:∀ s t,g (.cell s t)=(do loadVar t (← asAddr (a.tmps.getD s undef)))) {x:ResultVar} {l:List ResultVar} {r:Rs} {rs:List Rs} (hc:Z3 P (x :: l) (r :: rs)=true) {q:PV} (hq:a5w st r=some q) :
 Z3 P l rs=true∧∃ v,(g x).run P w=.ok v w∧RepP γ (i8 F.L γ st.mem) w q v:=by
 cases x with
 | tmp s=>
  cases r with
  | t s'=>
   simp only [Z3,Bool.and_eq_true,beq_iff_eq] at hc
   obtain ⟨rfl,hc⟩:=hc
   simp only [a5w,Option.some.injEq] at hq
   subst hq
   exact ⟨hc,_,by rw [h1];rfl,hI.env _⟩
  | c s' agg n=>simp [Z3] at hc
 | cell s t=>
  cases r with
  | t s'=>simp [Z3] at hc
  | c s' agg n=>
   simp only [Z3,Bool.and_eq_true,beq_iff_eq] at hc
   obtain ⟨⟨⟨⟨rfl,hn⟩,ha⟩,h4⟩,hc⟩:=hc
   refine ⟨hc,?_⟩
   obtain ⟨i,hi,hn⟩:∃ i,P.info? t=some i∧i.size=n:=by
    split at hn
    · rename_i i hi;exact ⟨i,hi,by simpa using hn⟩
    · cases hn
   simp only [a5w] at hq
   split at hq
   · rename_i id o e
     have hx:=hI.env s
     rw [e] at hx
     obtain ⟨b,hg,hv⟩:=hx.ptrI
     split at hq
     · rename_i cs hm
       split at hq
       · rename_i hb
         obtain ⟨hb,h0⟩:=hb
         simp only [Option.some.injEq] at hq
         obtain ⟨b',f,hg',hcl,hr⟩:=b3n hI hm hb
         rw [hg] at hg'
         simp only [Value.pointer.injEq,Option.some.injEq,Addr.mk.injEq,and_true] at hg'
         subst hg'
         obtain ⟨v,hl,hq'⟩:=a1b (γ:=γ) (L:=i8 F.L γ st.mem) (off:=o) ((cs.drop o).take n) f hi hn ha h4 h0 (by simp;omega) hcl hr
         refine ⟨v,?_,?_⟩
         · rw [h2,hv]
           unfold Instr.loadAt Instr.sureAddr at hl
           simpa [asAddr] using hl
         · subst hq
           cases agg with
           | true=>exact hq'
           | false=>rw [show cs.getD o PV.undef=((cs.drop o).take n).getD 0 .undef from by rw [D3 _ _ _ _ _ h0,Nat.add_zero]];exact hq'
       · cases hq
     · cases hq
   · cases hq
theorem b5n (hI:Inv F γ st a w) {g:ResultVar→Sem Value} (h1:∀ t,g (.tmp t)=pure (a.tmps.getD t undef)) (h2:∀ s t,g (.cell s t)=(do loadVar t (← asAddr (a.tmps.getD s undef)))):∀ {l:List ResultVar} {rs:List Rs} {qs:List PV},Z3 P l rs=true→a1o st rs=some qs →
 ∃ vs,(l.mapM g).run P w=.ok vs w∧vs.length=qs.length∧∀ j,j < qs.length→RepP γ (i8 F.L γ st.mem) w (qs.getD j .undef) (vs.getD j undef)
 | [],[],qs,_,hq=>by
  simp [a1o] at hq;subst hq
  exact ⟨[],rfl,rfl,fun j hj=>by simp at hj⟩
 | x :: l,[],qs,hc,_=>by cases x<;>simp [Z3] at hc
 | [],r :: rs,qs,hc,_=>by simp [Z3] at hc
 | x :: l,r :: rs,qs,hc,hq=>by
  simp only [a1o] at hq
  split at hq
  · rename_i p ps e1 e2
    simp only [Option.some.injEq] at hq
    subst hq
    obtain ⟨hc',v,k1,k2⟩:=res_one hI h1 h2 hc e1
    obtain ⟨vs,k3,k4,k5⟩:=b5n hI h1 h2 hc' e2
    refine ⟨v :: vs,by simp [List.mapM_cons,k1,k3],by simp [k4],fun j hj=>?_⟩
    cases j with
    | zero=>simpa using k2
    | succ j=>simpa using k5 j (by simpa using hj)
  · cases hq
theorem a5v (hI:Inv F γ st a w) {fn:Func} {rs:List Rs} {q:PV} (hc:Z3 P fn.results.toList rs=true) (hq:J8 rs st=some q) :
 ∃ v,(results fn a.tmps).run P w=.ok v w∧RepP γ (i8 F.L γ st.mem) w q v:=by
 have e:fn.results=fn.results.toList.toArray:=by simp
 have key:∀ (qs:List PV),a1o st rs=some qs→∃ vs:List Value,vs.length=qs.length∧(results fn a.tmps).run P w=.ok (if h:vs.toArray.size=1 then vs.toArray[0] else .tuple vs.toArray) w∧∀ j,j < qs.length→RepP γ (i8 F.L γ st.mem) w (qs.getD j .undef) (vs.getD j undef):=fun qs hqs=>by
  have hM:∃ g:ResultVar→Sem Value,(∀ t,g (.tmp t)=pure (a.tmps.getD t undef))∧(∀ s t,g (.cell s t)=(do loadVar t (← asAddr (a.tmps.getD s undef)))) ∧
   (results fn a.tmps).run P w=(((fn.results.toList.mapM g).run P w).andThen fun vs w'=>.ok (if h:vs.toArray.size=1 then vs.toArray[0] else .tuple vs.toArray) w'):=by
   refine ⟨fun | .tmp t=>pure (a.tmps.getD t undef) | .cell s t=>do loadVar t (← asAddr (a.tmps.getD s undef)),fun t=>rfl,fun s t=>rfl,?_⟩
   unfold results
   rw [e]
   simp only [Array.mapM_eq_mapM_toList,Sem.run_bind,Sem.run_map,List.toList_toArray]
   generalize hr:Sem.run P (List.mapM _ fn.results.toList) w=r
   cases r<;>rfl
  obtain ⟨g,g1,g2,g3⟩:=hM
  obtain ⟨vs,k1,k2,k3⟩:=b5n (P:=P) hI g1 g2 hc hqs
  refine ⟨vs,k2,?_,k3⟩
  rw [g3,k1];rfl
 unfold J8 at hq
 split at hq
 · rename_i r
   obtain ⟨vs,k1,k2,k3⟩:=key [q] (by simp [a1o,hq])
   refine ⟨vs.getD 0 undef,?_,by simpa using k3 0 (by simp)⟩
   rw [k2]
   cases vs with
   | nil=>simp at k1
   | cons v vs=>cases vs with
    | nil=>rfl
    | cons v' vs=>simp at k1
 · rename_i hne
   simp only [Option.map_eq_some_iff] at hq
   obtain ⟨qs,hqs,rfl⟩:=hq
   obtain ⟨vs,k1,k2,k3⟩:=key qs hqs
   have hlen:∀ (rs:List Rs) (qs:List PV),a1o st rs=some qs→qs.length=rs.length:=by
    intro rs
    induction rs with
    | nil=>intro qs h;simp [a1o] at h;subst h;rfl
    | cons r rs ih=>
     intro qs h
     simp only [a1o] at h
     split at h
     · rename_i p ps e1 e2
       simp only [Option.some.injEq] at h;subst h
       simp [ih ps e2]
     · cases h
   have hl:=hlen rs qs hqs
   have h1:¬ vs.toArray.size=1:=fun h=>by
    have:rs.length=1:=by simp at h;omega
    cases rs with
    | nil=>simp at this
    | cons r rs=>cases rs with
     | nil=>exact hne r rfl
     | cons r' rs=>simp at this
   refine ⟨.tuple vs.toArray,by rw [k2,dif_neg h1],.tup qs _ (by simpa using k1) fun i hi=>?_⟩
   have:=k3 i hi
   simpa [Array.getD_eq_getD_getElem?,List.getD_eq_getElem?_getD] using this
end
end Go.PW
